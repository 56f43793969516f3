import PyProof.Rows.All
import HandS.ForExc
import HandS.Wide
import HandS.IsInst
import HandS.Sort
import HandS.Conv
import HandS.Deep
import HandS.Dict
import HandS.DictSub
import HandS.Iter
import HandS.Comp
import HandS.More
import HandS.TryMany
import HandS.Defaults
import HandS.TupAny
import HandS.Flow
import PyProof.NoPylong
import HandS.SortInts
import HandS.WordsDict
import HandS.ExcOwn
import KE.SortData
import KE.KItemsList
import KE.KDictSum
import HandS.Small
import HandS.ListItems
import PyProof.ReprRoads
import HandS.RaiseMore
import HandS.Style
import HandS.Ends
import HandS.HeadEnd
import HandS.HeadHook1
import HandS.HeadHook2
import HandS.Head0
import HandS.Head1
import HandS.Head2
import KE.KStateDown
import PySem.Challenge.RW_evensure_k58_whole_where_beats_part
set_option Elab.async false
set_option linter.all false
set_option maxRecDepth 100000
set_option autoImplicit false
/-! EV: plain values and a store in place of the abstract heap; the relation; what a reading says of a plain evaluation. -/
namespace EV
open PySem PySem.Spec PyProof.Rows L2

/-- a plain value; ref n: the n-th object of the store; gl x: what the module's name x stands for; err: a caught error of class c whose one field is x -/
inductive D where
  | non | bl (b : Bool) | int (i : Int) | str (x : Str) | tup (xs : List D) | ref (n : Nat) | gl (x : Str) | ty (n : String)
/-- an object of the store -/
inductive O where
  | lst (xs : List D)
  | scr (xs : List D)
  | dic (kvs : List (D × D))
def O.mut : O → Bool
  | .scr _ => false
  | _ => true
abbrev Store := List O
/-- how an evaluation ends: a value and the store; an error of class c with its field f; no word -/
inductive R (α : Type) where
  | ok (a : α) (S : Store)
  | exc (c f x : Str) (S : Store)
  | bad
def R.bind {α β : Type} (r : R α) (f : α → Store → R β) : R β := match r with
  | .ok a S => f a S
  | .exc c g x S => .exc c g x S
  | .bad => .bad
abbrev EnvP := List (Option D)
abbrev Ev := EnvP → Store → R D

/-! ### the relation -/
/-- what never changes -/
def Imm : HO → Bool
  | .tup _ => true
  | .frz _ _ => true
  | .xd _ => true
  | _ => false
structure Ext (ρ : Nat → Addr) (N : Nat) (H : Hp) (ρ' : Nat → Addr) (N' : Nat) (H' : Hp) : Prop where
  len : N ≤ N'
  map : ∀ n, n < N → ρ' n = ρ n
  imm : ∀ a o, Imm o = true → H a = some o → H' a = some o
theorem Ext.refl {ρ : Nat → Addr} {N : Nat} {H : Hp} : Ext ρ N H ρ N H := ⟨Nat.le_refl _, fun _ _ => rfl, fun _ _ _ h => h⟩
theorem Ext.trans {ρ ρ1 ρ2 : Nat → Addr} {N N1 N2 : Nat} {H H1 H2 : Hp} (a : Ext ρ N H ρ1 N1 H1) (b : Ext ρ1 N1 H1 ρ2 N2 H2) : Ext ρ N H ρ2 N2 H2 :=
  ⟨Nat.le_trans a.len b.len, fun n h => (b.map n (Nat.lt_of_lt_of_le h a.len)).trans (a.map n h), fun x o i h => b.imm x o i (a.imm x o i h)⟩

section
variable (K : PySem.W.Frag) (mg : Str → Option Value)
mutual
inductive RD (ρ : Nat → Addr) (N : Nat) (H : Hp) : D → V → Prop
  | non : RD ρ N H .non .non
  | bl (b : Bool) : RD ρ N H (.bl b) (.bl b)
  | int (i : Int) : RD ρ N H (.int i) (.int i)
  | str (x : Str) : RD ρ N H (.str x) (.str x)
  | tup {ds : List D} {a : Addr} {vs : List V} : SqT K H a vs → RDs ρ N H ds vs → RD ρ N H (.tup ds) (.ref a)
  | ref {n : Nat} {a : Addr} : n < N → a = ρ n → RD ρ N H (.ref n) (.ref a)
  | gl {x : Str} {a : Addr} : mg x = some (.ref a) → RD ρ N H (.gl x) (.ref a)
  | ty (n : String) : RD ρ N H (.ty n) (.ty n)
inductive RDs (ρ : Nat → Addr) (N : Nat) (H : Hp) : List D → List V → Prop
  | nil : RDs ρ N H [] []
  | cons {d : D} {v : V} {ds : List D} {vs : List V} : RD ρ N H d v → RDs ρ N H ds vs → RDs ρ N H (d :: ds) (v :: vs)
end
end
section
variable {K : PySem.W.Frag} {mg : Str → Option Value} {ρ ρ' : Nat → Addr} {N N' : Nat} {H H' : Hp}
theorem sqT_imm (h : ∀ a o, Imm o = true → H a = some o → H' a = some o) {a : Addr} {vs : List V} (q : SqT K H a vs) : SqT K H' a vs := by
  rcases q with (q | ⟨o, q⟩) | q
  · exact .inl (.inl (h _ _ rfl q))
  · exact .inl (.inr ⟨o, h _ _ rfl q⟩)
  · exact .inr q
mutual
theorem RD.ext (e : Ext ρ N H ρ' N' H') : ∀ {d : D} {v : V}, RD K mg ρ N H d v → RD K mg ρ' N' H' d v
  | _, _, .non => .non
  | _, _, .bl b => .bl b
  | _, _, .int i => .int i
  | _, _, .str x => .str x
  | _, _, .tup q r => .tup (sqT_imm e.imm q) (RDs.ext e r)
  | _, _, .ref h q => .ref (Nat.lt_of_lt_of_le h e.len) (q.trans (e.map _ h).symm)
  | _, _, .gl q => .gl q
  | _, _, .ty n => .ty n
theorem RDs.ext (e : Ext ρ N H ρ' N' H') : ∀ {ds : List D} {vs : List V}, RDs K mg ρ N H ds vs → RDs K mg ρ' N' H' ds vs
  | _, _, .nil => .nil
  | _, _, .cons r t => .cons (RD.ext e r) (RDs.ext e t)
end
theorem RDs.length : ∀ {ds : List D} {vs : List V}, RDs K mg ρ N H ds vs → ds.length = vs.length
  | _, _, .nil => rfl
  | _, _, .cons _ t => congrArg (· + 1) (RDs.length t)
theorem RDs.get : ∀ {ds : List D} {vs : List V} {i : Nat} {d : D}, RDs K mg ρ N H ds vs → ds[i]? = some d → ∃ v, vs[i]? = some v ∧ RD K mg ρ N H d v
  | _, _, _, _, .nil, e => by simp at e
  | _, _, 0, _, .cons r _, e => by simp at e; subst e; exact ⟨_, rfl, r⟩
  | _, _, i + 1, _, .cons _ t, e => by simpa using RDs.get (i := i) t (by simpa using e)
theorem RDs.get' : ∀ {ds : List D} {vs : List V} {i : Nat} {v : V}, RDs K mg ρ N H ds vs → vs[i]? = some v → ∃ d, ds[i]? = some d ∧ RD K mg ρ N H d v
  | _, _, _, _, .nil, e => by simp at e
  | _, _, 0, _, .cons r _, e => by simp at e; subst e; exact ⟨_, rfl, r⟩
  | _, _, i + 1, _, .cons _ t, e => by simpa using RDs.get' (i := i) t (by simpa using e)
theorem RDs.append : ∀ {ds es : List D} {vs us : List V}, RDs K mg ρ N H ds vs → RDs K mg ρ N H es us → RDs K mg ρ N H (ds ++ es) (vs ++ us)
  | _, _, _, _, .nil, s => s
  | _, _, _, _, .cons r t, s => .cons r (RDs.append t s)
theorem RDs.take : ∀ {ds : List D} {vs : List V} (n : Nat), RDs K mg ρ N H ds vs → RDs K mg ρ N H (ds.take n) (vs.take n)
  | _, _, 0, _ => .nil
  | _, _, n + 1, .nil => .nil
  | _, _, n + 1, .cons r t => .cons r (RDs.take n t)
theorem RDs.drop : ∀ {ds : List D} {vs : List V} (n : Nat), RDs K mg ρ N H ds vs → RDs K mg ρ N H (ds.drop n) (vs.drop n)
  | _, _, 0, r => r
  | _, _, n + 1, .nil => .nil
  | _, _, n + 1, .cons _ t => RDs.drop n t
theorem RDs.set {d : D} {v : V} (r : RD K mg ρ N H d v) : ∀ {ds : List D} {vs : List V} (i : Nat), RDs K mg ρ N H ds vs → RDs K mg ρ N H (ds.set i d) (vs.set i v)
  | _, _, _, .nil => .nil
  | _, _, 0, .cons _ t => .cons r t
  | _, _, i + 1, .cons q t => .cons q (RDs.set r i t)
theorem RDs.erase : ∀ {ds : List D} {vs : List V} (i : Nat), RDs K mg ρ N H ds vs → RDs K mg ρ N H (ds.eraseIdx i) (vs.eraseIdx i)
  | _, _, _, .nil => .nil
  | _, _, 0, .cons _ t => t
  | _, _, i + 1, .cons q t => .cons q (RDs.erase i t)
theorem RDs.reverse : ∀ {ds : List D} {vs : List V}, RDs K mg ρ N H ds vs → RDs K mg ρ N H ds.reverse vs.reverse
  | _, _, .nil => .nil
  | _, _, .cons r t => by
    rw [List.reverse_cons, List.reverse_cons]
    exact (RDs.reverse t).append (.cons r .nil)
theorem RDs.ints : ∀ ns : List Int, RDs K mg ρ N H (ns.map D.int) (ns.map V.int)
  | [] => .nil
  | n :: ns => .cons (.int n) (RDs.ints ns)
theorem RDs.of_ints : ∀ {ns : List Int} {vs : List V}, RDs K mg ρ N H (ns.map D.int) vs → vs = ns.map V.int
  | [], _, .nil => rfl
  | n :: ns, _, .cons r t => by
    cases r
    rw [RDs.of_ints t]
    rfl
end

/-- a list of the written part (the script may stand there) -/
def KList (K : PySem.W.Frag) (a : Addr) (xs : List V) : Prop := ∀ H : Hp, SqL K H a xs
section
variable (K : PySem.W.Frag) (mg : Str → Option Value)
inductive RKV (ρ : Nat → Addr) (N : Nat) (H : Hp) : List (D × D) → List (Key × V) → Prop
  | nil : RKV ρ N H [] []
  | int {i : Int} {d : D} {v : V} {kds : List (D × D)} {kvs : List (Key × V)} : RD K mg ρ N H d v → RKV ρ N H kds kvs → RKV ρ N H ((.int i, d) :: kds) ((.inl i, v) :: kvs)
  | str {x : Str} {d : D} {v : V} {kds : List (D × D)} {kvs : List (Key × V)} : RD K mg ρ N H d v → RKV ρ N H kds kvs → RKV ρ N H ((.str x, d) :: kds) ((.inr x, v) :: kvs)
/-- how an object of the store stands in the abstract heap -/
inductive RO (ρ : Nat → Addr) (N : Nat) (H : Hp) : O → Addr → Prop
  | lst {ds : List D} {vs : List V} {a : Addr} : H a = some (.lst vs) → RDs K mg ρ N H ds vs → RO ρ N H (.lst ds) a
  | scr {ds : List D} {vs : List V} {a : Addr} : ((∃ o, H a = some (.frz o (.lst vs))) ∨ KList K a vs) → RDs K mg ρ N H ds vs → RO ρ N H (.scr ds) a
  | dK {kds : List (D × D)} {kvs : List (Key × V)} {a : Addr} : H a = some (.dK kvs) → RKV K mg ρ N H kds kvs → RO ρ N H (.dic kds) a
structure Rel (ρ : Nat → Addr) (S : Store) (H : Hp) : Prop where
  obj : ∀ (n : Nat) o, S[n]? = some o → RO K mg ρ S.length H o (ρ n)
  inj : ∀ (n m : Nat) o u, S[n]? = some o → S[m]? = some u → o.mut = true → u.mut = true → ρ n = ρ m → n = m
structure REnv (ρ : Nat → Addr) (N : Nat) (H : Hp) (env : EnvP) (σ : L2.St) : Prop where
  len : env.length = σ.length
  at_ : ∀ (i : Nat) d, env[i]? = some (some d) → ∃ v, σ[i]? = some (some v) ∧ RD K mg ρ N H d v
end
section
variable {K : PySem.W.Frag} {mg : Str → Option Value} {ρ ρ' : Nat → Addr} {N N' : Nat} {H H' : Hp} {S S' : Store} {env : EnvP} {σ : L2.St}
theorem RKV.ext (e : Ext ρ N H ρ' N' H') : ∀ {kds : List (D × D)} {kvs : List (Key × V)}, RKV K mg ρ N H kds kvs → RKV K mg ρ' N' H' kds kvs
  | _, _, .nil => .nil
  | _, _, .int r t => .int (r.ext e) (RKV.ext e t)
  | _, _, .str r t => .str (r.ext e) (RKV.ext e t)
theorem REnv.ext (r : REnv K mg ρ N H env σ) (e : Ext ρ N H ρ' N' H') : REnv K mg ρ' N' H' env σ :=
  ⟨r.len, fun i d h => let ⟨v, h1, h2⟩ := r.at_ i d h; ⟨v, h1, h2.ext e⟩⟩
theorem REnv.set (r : REnv K mg ρ N H env σ) {d : D} {v : V} (i : Nat) (h : RD K mg ρ N H d v) : REnv K mg ρ N H (env.set i (some d)) (σ.set i (some v)) := by
  refine ⟨by simpa using r.len, fun j x hx => ?_⟩
  by_cases e : i = j
  · subst e
    have hl : i < env.length := by
      have := (List.getElem?_eq_some_iff.mp hx).1
      simpa using this
    rw [List.getElem?_set_self hl] at hx
    cases hx
    exact ⟨v, by rw [List.getElem?_set_self (by rw [← r.len]; exact hl)], h⟩
  · rw [List.getElem?_set_ne e] at hx
    obtain ⟨u, h1, h2⟩ := r.at_ j x hx
    exact ⟨u, by rw [List.getElem?_set_ne e]; exact h1, h2⟩
theorem REnv.start {ds : List D} {vs : List V} (r : RDs K mg ρ N H ds vs) (n : Nat) : REnv K mg ρ N H (ds.map some ++ List.replicate n none) (vs.map some ++ List.replicate n none) := by
  refine ⟨by simp [r.length], fun i d h => ?_⟩
  by_cases hi : i < ds.length
  · rw [List.getElem?_append_left (by simpa using hi), List.getElem?_map] at h
    cases q : ds[i]? with
    | none => rw [q] at h; cases h
    | some x =>
      rw [q] at h
      cases h
      obtain ⟨v, h1, h2⟩ := r.get q
      refine ⟨v, ?_, h2⟩
      rw [List.getElem?_append_left (by rw [List.length_map, ← r.length]; exact hi), List.getElem?_map, h1]
      rfl
  · rw [List.getElem?_append_right (by simpa using Nat.le_of_not_lt hi)] at h
    rw [List.getElem?_replicate] at h
    split at h <;> cases h
/-- an immutable object is laid at a free place -/
theorem imm_upd {p : Addr} {o : HO} (hp : H p = none) : ∀ a u, Imm u = true → H a = some u → upd H p o a = some u := fun a u _ h => by
  rw [upd_ne (ne_of_none h hp)]
  exact h
theorem Ext.new {p : Addr} {o : HO} (hp : H p = none) : Ext ρ N H ρ N (upd H p o) := ⟨Nat.le_refl _, fun _ _ => rfl, imm_upd hp⟩
theorem RO.at_ {o : O} {a : Addr} (r : RO K mg ρ N H o a) (m : o.mut = true) : ∃ u, H a = some u ∧ Imm u = false := by
  cases r with
  | lst h _ => exact ⟨_, h, rfl⟩
  | scr _ _ => cases m
  | dK h _ => exact ⟨_, h, rfl⟩
/-- the object's own place stays -/
theorem RO.stay {o : O} {a : Addr} (r : RO K mg ρ N H o a) (e : Ext ρ N H ρ' N' H') (h : o.mut = true → H' a = H a) : RO K mg ρ' N' H' o a := by
  cases r with
  | lst h1 h2 => exact .lst ((h rfl).trans h1) (h2.ext e)
  | scr h1 h2 =>
    refine .scr ?_ (h2.ext e)
    rcases h1 with ⟨o, h1⟩ | h1
    · exact .inl ⟨o, e.imm _ _ rfl h1⟩
    · exact .inr h1
  | dK h1 h2 => exact .dK ((h rfl).trans h1) (h2.ext e)
theorem Rel.new_imm (r : Rel K mg ρ S H) {p : Addr} {o : HO} (hp : H p = none) : Rel K mg ρ S (upd H p o) :=
  ⟨fun n u h => (r.obj n u h).stay (.new hp) fun m => by
    obtain ⟨w, h1, _⟩ := (r.obj n u h).at_ m
    exact upd_ne (ne_of_none h1 hp), r.inj⟩
def push (ρ : Nat → Addr) (N : Nat) (p : Addr) : Nat → Addr := fun n => if n = N then p else ρ n
theorem push_same {p : Addr} : push ρ N p N = p := if_pos rfl
theorem push_ne {n : Nat} {p : Addr} (h : n ≠ N) : push ρ N p n = ρ n := if_neg h
theorem Ext.push {p : Addr} {o : HO} (hp : H p = none) : Ext ρ N H (push ρ N p) (N + 1) (upd H p o) :=
  ⟨Nat.le_succ _, fun n h => push_ne (Nat.ne_of_lt h), imm_upd hp⟩
/-- a new object joins the store -/
theorem Rel.push (r : Rel K mg ρ S H) {p : Addr} {o : HO} {u : O} (hp : H p = none) (ho : RO K mg (push ρ S.length p) (S.length + 1) (upd H p o) u p) : Rel K mg (push ρ S.length p) (S ++ [u]) (upd H p o) := by
  have e : Ext ρ S.length H (EV.push ρ S.length p) (S.length + 1) (upd H p o) := .push hp
  have old : ∀ n w, S[n]? = some w → n < S.length := fun n w h => (List.getElem?_eq_some_iff.mp h).1
  have cas : ∀ n w, (S ++ [u])[n]? = some w → (S[n]? = some w) ∨ (n = S.length ∧ w = u) := fun n w h => by
    by_cases hn : n < S.length
    · rw [List.getElem?_append_left hn] at h
      exact .inl h
    · rw [List.getElem?_append_right (Nat.le_of_not_lt hn)] at h
      have h0 : n - S.length = 0 := by
        cases q : n - S.length with
        | zero => rfl
        | succ m => rw [q] at h; simp at h
      rw [h0] at h
      exact .inr ⟨by omega, (Option.some.inj h).symm⟩
  refine ⟨fun n w h => ?_, fun n m w x hn hm mw mx q => ?_⟩
  · rw [List.length_append, List.length_singleton]
    rcases cas n w h with h | ⟨rfl, rfl⟩
    · rw [push_ne (Nat.ne_of_lt (old n w h))]
      refine (r.obj n w h).stay e fun mw => ?_
      obtain ⟨y, h1, _⟩ := (r.obj n w h).at_ mw
      exact upd_ne (ne_of_none h1 hp)
    · rw [push_same]
      exact ho
  · rcases cas n w hn with h | ⟨rfl, rfl⟩ <;> rcases cas m x hm with h' | ⟨rfl, rfl⟩
    · rw [push_ne (Nat.ne_of_lt (old n w h)), push_ne (Nat.ne_of_lt (old m x h'))] at q
      exact r.inj n m w x h h' mw mx q
    · rw [push_ne (Nat.ne_of_lt (old n w h)), push_same] at q
      obtain ⟨y, h1, _⟩ := (r.obj n w h).at_ mw
      rw [q, hp] at h1
      cases h1
    · rw [push_ne (Nat.ne_of_lt (old m x h')), push_same] at q
      obtain ⟨y, h1, _⟩ := (r.obj m x h').at_ mx
      rw [← q, hp] at h1
      cases h1
    · rfl
/-- a mutable object is written -/
theorem Ext.write {n : Nat} {u : O} {ho : HO} (r : Rel K mg ρ S H) (h : S[n]? = some u) (m : u.mut = true) : Ext ρ S.length H ρ S.length (upd H (ρ n) ho) := by
  obtain ⟨y, h1, h2⟩ := (r.obj n u h).at_ m
  refine ⟨Nat.le_refl _, fun _ _ => rfl, fun a o i q => ?_⟩
  rw [upd_ne fun e => ?_]
  · exact q
  · rw [e, h1] at q
    cases q
    rw [h2] at i
    cases i
theorem Rel.write (r : Rel K mg ρ S H) {n : Nat} {u u' : O} {ho : HO} (h : S[n]? = some u) (m : u.mut = true) (hm : u'.mut = true) (hn : RO K mg ρ S.length (upd H (ρ n) ho) u' (ρ n)) : Rel K mg ρ (S.set n u') (upd H (ρ n) ho) := by
  have e := Ext.write (ho := ho) r h m
  have hl : n < S.length := (List.getElem?_eq_some_iff.mp h).1
  refine ⟨fun k w q => ?_, fun k l w x q q' mw mx z => ?_⟩
  · rw [List.length_set]
    by_cases hk : n = k
    · subst hk
      rw [List.getElem?_set_self hl] at q
      cases q
      exact hn
    · rw [List.getElem?_set_ne hk] at q
      refine (r.obj k w q).stay e fun mw => ?_
      exact upd_ne fun z => hk (r.inj n k u w h q m mw z.symm)
  · have back : ∀ (k : Nat) (w : O), (S.set n u')[k]? = some w → w.mut = true → ∃ w' : O, S[k]? = some w' ∧ w'.mut = true := fun k w q mw => by
      by_cases hk : n = k
      · subst hk
        exact ⟨u, h, m⟩
      · rw [List.getElem?_set_ne hk] at q
        exact ⟨w, q, mw⟩
    obtain ⟨w', a1, a2⟩ := back k w q mw
    obtain ⟨x', b1, b2⟩ := back l x q' mx
    exact r.inj k l w' x' a1 b1 a2 b2 z
end

/-! ### what is wanted behind an evaluation -/
section
variable (K : PySem.W.Frag) (mg : Str → Option Value)
def Aft {α : Type} (ρ : Nat → Addr) (N : Nat) (H : Hp) (r : R α) (P : α → Store → (Nat → Addr) → Hp → Prop) (E : XK) : Prop := match r with
  | .ok a S' => ∀ ρ' H', Ext ρ N H ρ' S'.length H' → Rel K mg ρ' S' H' → P a S' ρ' H'
  | .exc c f x S' => ∀ ρ' H' C a, Ext ρ N H ρ' S'.length H' → Rel K mg ρ' S' H' → mg c = some (.ref C) → H' a = some (.xd [(f, .str x)]) → E (.ref C) (some a) H'
  | .bad => False
def PV (Q : VK) : D → Store → (Nat → Addr) → Hp → Prop := fun d S ρ H => ∀ v, RD K mg ρ S.length H d v → Q v H
def PVs (Q : List V → Hp → Prop) : List D → Store → (Nat → Addr) → Hp → Prop := fun ds S ρ H => ∀ vs, RDs K mg ρ S.length H ds vs → Q vs H
def PB (Q : Bool → Hp → Prop) : Bool → Store → (Nat → Addr) → Hp → Prop := fun b _ _ H => Q b H
/-- the state at hand -/
structure At (ρ : Nat → Addr) (S : Store) (H : Hp) (env : EnvP) (σ : L2.St) : Prop where
  rel : Rel K mg ρ S H
  env : REnv K mg ρ S.length H env σ
def LE (W : WX) (f : Ev) : TE := fun σ H Q => ∃ ρ S env, At K mg ρ S H env σ ∧ Aft K mg ρ S.length H (f env S) (PV K mg Q) (WE W σ)
def LT (W : WX) (f : EnvP → Store → R Bool) : TT := fun σ H Q => ∃ ρ S env, At K mg ρ S H env σ ∧ Aft K mg ρ S.length H (f env S) (PB Q) (WE W σ)
def LA (W : WX) (f : EnvP → Store → R (List D)) : TA := fun σ H Q => ∃ ρ S env, At K mg ρ S H env σ ∧ Aft K mg ρ S.length H (f env S) (PVs K mg Q) (WE W σ)
end
section
variable {K : PySem.W.Frag} {mg : Str → Option Value} {ρ ρ1 : Nat → Addr} {N N1 : Nat} {H H1 : Hp} {S S1 : Store} {env : EnvP} {σ : L2.St} {α β : Type} {r : R α} {E : XK}
theorem Aft.rebase {P : α → Store → (Nat → Addr) → Hp → Prop} (h : Aft K mg ρ N H r P E) (e : Ext ρ N H ρ1 N1 H1) : Aft K mg ρ1 N1 H1 r P E := by
  cases r with
  | ok a S' => exact fun ρ' H' x y => h ρ' H' (e.trans x) y
  | exc c f x S' => exact fun ρ' H' C a x y => h ρ' H' C a (e.trans x) y
  | bad => exact h
theorem Aft.mono {P P' : α → Store → (Nat → Addr) → Hp → Prop} (h : Aft K mg ρ N H r P E) (i : ∀ a S' ρ' H', Ext ρ N H ρ' S'.length H' → Rel K mg ρ' S' H' → P a S' ρ' H' → P' a S' ρ' H') : Aft K mg ρ N H r P' E := by
  cases r with
  | ok a S' => exact fun ρ' H' x y => i a S' ρ' H' x y (h ρ' H' x y)
  | exc c f x S' => exact h
  | bad => exact h
theorem Aft.bind {P : β → Store → (Nat → Addr) → Hp → Prop} {f : α → Store → R β} (h : Aft K mg ρ N H (r.bind f) P E) :
    Aft K mg ρ N H r (fun a S' ρ' H' => Aft K mg ρ' S'.length H' (f a S') P E) E := by
  cases r with
  | ok a S' => exact fun ρ' H' x y => Aft.rebase (r := f a S') h x
  | exc c f x S' => exact h
  | bad => exact h
theorem Aft.ok {P : α → Store → (Nat → Addr) → Hp → Prop} {a : α} (h : Aft K mg ρ S.length H (.ok a S) P E) (y : Rel K mg ρ S H) : P a S ρ H := h ρ H .refl y
theorem At.ext (a : At K mg ρ S H env σ) (e : Ext ρ S.length H ρ1 S1.length H1) (r : Rel K mg ρ1 S1 H1) : At K mg ρ1 S1 H1 env σ := ⟨r, a.env.ext e⟩
end
end EV

set_option maxRecDepth 100000
set_option autoImplicit false
/-! EV: expressions. -/
namespace EV
open PySem PySem.Spec PyProof.Rows L2

theorem _root_.L2.PE.imp {X : Cx} {e : Expr} {t t' : TE} (h : PE X e t) (i : ∀ σ H Q, t' σ H Q → t σ H Q) : PE X e t' := ⟨fun pins s σ H Q I q => h.run pins s σ H Q I (i σ H Q q)⟩
theorem _root_.L2.PT.imp {X : Cx} {e : Expr} {t t' : TT} (h : PT X e t) (i : ∀ σ H Q, t' σ H Q → t σ H Q) : PT X e t' := ⟨fun pins s σ H Q I q => h.run pins s σ H Q I (i σ H Q q)⟩
theorem _root_.L2.PW.imp {X : Cx} {e : Expr} {t t' : TT} (h : PW X e t) (i : ∀ σ H Q, t' σ H Q → t σ H Q) : PW X e t' := ⟨fun wh pins s σ H Q I q => h.run wh pins s σ H Q I (i σ H Q q)⟩
theorem _root_.L2.PA.imp {X : Cx} {es : List Expr} {t t' : TA} (h : PA X es t) (i : ∀ σ H Q, t' σ H Q → t σ H Q) : PA X es t' := ⟨fun pos pins s σ H Q I q => h.run pos pins s σ H Q I (i σ H Q q)⟩
theorem _root_.L2.PS.imp {X : Cx} {st : Stmt} {t t' : TS} (h : PS X st t) (i : ∀ D σ H, t' D σ H → t D σ H) : PS X st t' := ⟨fun pins s σ H D I q => h.run pins s σ H D I (i D σ H q)⟩
theorem _root_.L2.PSs.imp {X : Cx} {st : List Stmt} {t t' : TS} (h : PSs X st t) (i : ∀ D σ H, t' D σ H → t D σ H) : PSs X st t' := ⟨fun pins s σ H D I q => h.run pins s σ H D I (i D σ H q)⟩

/-! ### the judgements -/
abbrev QE (X : Cx) (W : WX) (e : Expr) (f : Ev) : Prop := PE X e (LE X.K X.mg W f)
abbrev QT (X : Cx) (W : WX) (e : Expr) (f : EnvP → Store → R Bool) : Prop := PT X e (LT X.K X.mg W f)
abbrev QW (X : Cx) (W : WX) (e : Expr) (f : EnvP → Store → R Bool) : Prop := PW X e (LT X.K X.mg W f)
abbrev QA (X : Cx) (W : WX) (es : List Expr) (f : EnvP → Store → R (List D)) : Prop := PA X es (LA X.K X.mg W f)

section
variable {X : Cx} {W : WX}

/-! ### names and constants -/
def fVar (i : Nat) : Ev := fun env S => match env[i]? with
  | some (some d) => .ok d S
  | _ => .bad
def fK (d : D) : Ev := fun _ S => .ok d S
theorem q_of_const {e : Expr} {d : D} {v : V} (h : PE X e (tC v)) (r : ∀ ρ N H, RD X.K X.mg ρ N H d v) : QE X W e (fK d) := by
  refine h.imp fun σ H Q q => ?_
  obtain ⟨ρ, S, env, a, f⟩ := q
  exact (Aft.ok f a.rel) v (r _ _ _)
theorem q_var (i : Nat) {x : Str} {pos : Pos} (h : PE X (.Name x pos) (tVar i)) : QE X W (.Name x pos) (fVar i) := by
  refine h.imp fun σ H Q q => ?_
  obtain ⟨ρ, S, env, a, f⟩ := q
  unfold fVar at f
  split at f
  · rename_i d hd
    obtain ⟨v, h1, h2⟩ := a.env.at_ i d hd
    exact ⟨v, h1, (Aft.ok f a.rel) v h2⟩
  · exact f.elim
theorem q_int {i j pos} : QE X W (.Constant (.int i) j pos) (fK (.int i)) := q_of_const pe_int fun _ _ _ => .int i
theorem q_str {x j pos} : QE X W (.Constant (.str x) j pos) (fK (.str x)) := q_of_const pe_str fun _ _ _ => .str x
theorem q_bl {b j pos} : QE X W (.Constant (.bool b) j pos) (fK (.bl b)) := q_of_const pe_bl fun _ _ _ => .bl b
theorem q_non {j pos} : QE X W (.Constant .none j pos) (fK .non) := q_of_const pe_non fun _ _ _ => .non
theorem q_gint {x : Str} {i : Int} {pos : Pos} (hg : Gl X x) (hm : ∃ t, X.mg x = some (.int i t)) (hd : (x == ("__debug__" : Str)) = false := by decide) : QE X W (.Name x pos) (fK (.int i)) := by
  obtain ⟨t, hm⟩ := hm
  exact q_of_const (pe_glob hg hm (v := .int i) ⟨t, rfl⟩ hd) fun _ _ _ => .int i
theorem q_ty {x : Str} {n : String} {pos : Pos} (hg : Gl X x) (hm : X.mg x = none) (hv : bootBuiltins x = some (.type n)) (hn : x ≠ "__name__" := by decide) (hd : (x == ("__debug__" : Str)) = false := by decide) : QE X W (.Name x pos) (fK (.ty n)) :=
  q_of_const (pe_bltn hg hm hv (v := .ty n) rfl hn hd) fun _ _ _ => .ty n
theorem q_gref {x : Str} {a : Addr} {pos : Pos} (hg : Gl X x) (hm : X.mg x = some (.ref a)) (hd : (x == ("__debug__" : Str)) = false := by decide) : QE X W (.Name x pos) (fK (.gl x)) :=
  q_of_const (pe_glob hg hm (v := .ref a) rfl hd) fun _ _ _ => .gl hm

/-! ### two expressions -/
def fBin (g : D → D → Store → R D) (fa fb : Ev) : Ev := fun env S => (fa env S).bind fun x S1 => (fb env S1).bind fun y S2 => g x y S2
def fUn (g : D → Store → R D) (fa : Ev) : Ev := fun env S => (fa env S).bind fun x S1 => g x S1
/-- the rule r serves the plain operation g -/
def Pr2 (K : PySem.W.Frag) (mg : Str → Option Value) (r : R2) (g : D → D → Store → R D) : Prop :=
  ∀ (ρ : Nat → Addr) (S : Store) (H : Hp) (x y : D) (v u : V) (Q : VK) (E : XK), Rel K mg ρ S H → RD K mg ρ S.length H x v → RD K mg ρ S.length H y u → Aft K mg ρ S.length H (g x y S) (PV K mg Q) E → r v u H Q
def Pr1 (K : PySem.W.Frag) (mg : Str → Option Value) (r : V → Hp → VK → Prop) (g : D → Store → R D) : Prop :=
  ∀ (ρ : Nat → Addr) (S : Store) (H : Hp) (x : D) (v : V) (Q : VK) (E : XK), Rel K mg ρ S H → RD K mg ρ S.length H x v → Aft K mg ρ S.length H (g x S) (PV K mg Q) E → r v H Q
theorem LE.op {K : PySem.W.Frag} {mg : Str → Option Value} {r : R2} {g : D → D → Store → R D} {fa fb : Ev} {σ : L2.St} {H : Hp} {Q : VK} (hg : Pr2 K mg r g) (h : LE K mg W (fBin g fa fb) σ H Q) : tOp r (LE K mg W fa) (LE K mg W fb) σ H Q := by
  obtain ⟨ρ, S, env, a, f⟩ := h
  refine ⟨ρ, S, env, a, (Aft.bind f).mono fun x S1 ρ1 H1 e1 r1 f1 => fun v hv => ⟨ρ1, S1, env, a.ext e1 r1, (Aft.bind f1).mono fun y S2 ρ2 H2 e2 r2 f2 => fun u hu => ?_⟩⟩
  exact hg ρ2 S2 H2 x y v u Q _ r2 (hv.ext e2) hu f2
theorem LE.un {K : PySem.W.Frag} {mg : Str → Option Value} {r : V → Hp → VK → Prop} {g : D → Store → R D} {fa : Ev} {σ : L2.St} {H : Hp} {Q : VK} (hg : Pr1 K mg r g) (h : LE K mg W (fUn g fa) σ H Q) : tUn r (LE K mg W fa) σ H Q := by
  obtain ⟨ρ, S, env, a, f⟩ := h
  exact ⟨ρ, S, env, a, (Aft.bind f).mono fun x S1 ρ1 H1 e1 r1 f1 => fun v hv => hg ρ1 S1 H1 x v Q _ r1 hv f1⟩
section
variable {a b c : Expr} {fa fb fc : Ev} {pos : Pos} {r r' : R2} {g g' : D → D → Store → R D}
theorem q_op {op : Operator} (ho : OpR X (binaryOp op) r) (hg : Pr2 X.K X.mg r g) (ha : QE X W a fa) (hb : QE X W b fb) : QE X W (.BinOp a op b pos) (fBin g fa fb) := (pe_op ho ha hb).imp fun _ _ _ h => h.op hg
theorem q_un {op : UnaryOp} {r : V → Hp → VK → Prop} {g : D → Store → R D} (ho : UnR X (unaryOp op) r) (hg : Pr1 X.K X.mg r g) (ha : QE X W a fa) : QE X W (.UnaryOp op a pos) (fUn g fa) := (pe_un ho ha).imp fun _ _ _ h => h.un hg
theorem q_cmp {op : CmpOp} (ho : OpR X (compareOp op) r) (hg : Pr2 X.K X.mg r g) (ha : QE X W a fa) (hb : QE X W b fb) (hm : behindInMarks op b = false) : QE X W (.Compare a [op] [b] pos) (fBin g fa fb) := (pe_cmpR ho ha hb hm).imp fun _ _ _ h => h.op hg
theorem q_ix (hr : IxR X r) (hg : Pr2 X.K X.mg r g) (ha : QE X W a fa) (hb : QE X W b fb) (hs : PlainIx b) : QE X W (.Subscript a b pos) (fBin g fa fb) := (pe_ix hr ha hb hs).imp fun _ _ _ h => h.op hg
/-- a value as a test of a bool -/
def fB (f : Ev) : EnvP → Store → R Bool := fun env S => (f env S).bind fun x S1 => match x with
  | .bl k => .ok k S1
  | _ => .bad
theorem LT.test {K : PySem.W.Frag} {mg : Str → Option Value} {f : Ev} {t : TE} {σ : L2.St} {H : Hp} {Q : Bool → Hp → Prop} (ht : ∀ σ H Q, LE K mg W f σ H Q → t σ H Q) (h : LT K mg W (fB f) σ H Q) : tTest t σ H Q := by
  obtain ⟨ρ, S, env, a, q⟩ := h
  refine ht _ _ _ ⟨ρ, S, env, a, (Aft.bind q).mono fun x S1 ρ1 H1 e1 r1 f1 => fun v hv => ?_⟩
  cases hv with
  | bl k => exact ⟨k, rfl, Aft.ok f1 r1⟩
  | _ => exact f1.elim
theorem qt_cmp {op : CmpOp} (ho : OpR X (compareOp op) r) (hg : Pr2 X.K X.mg r g) (ha : QE X W a fa) (hb : QE X W b fb) (hm : behindInMarks op b = false) : QT X W (.Compare a [op] [b] pos) (fB (fBin g fa fb)) := (pt_cmpR ho ha hb hm).imp fun _ _ _ h => LT.test (fun _ _ _ h => h.op hg) h
/-- a op b op' c -/
def fChain (g g' : D → D → Store → R D) (fa fb fc : Ev) : Ev := fun env S => (fa env S).bind fun x S1 => (fb env S1).bind fun y S2 => (g x y S2).bind fun z S3 => match z with
  | .bl true => (fc env S3).bind fun w S4 => g' y w S4
  | .bl false => .ok (.bl false) S3
  | _ => .bad
theorem LE.chain {K : PySem.W.Frag} {mg : Str → Option Value} {σ : L2.St} {H : Hp} {Q : VK} (hg : Pr2 K mg r g) (hg' : Pr2 K mg r' g') (h : LE K mg W (fChain g g' fa fb fc) σ H Q) : tChain r r' (LE K mg W fa) (LE K mg W fb) (LE K mg W fc) σ H Q := by
  obtain ⟨ρ, S, env, a, f⟩ := h
  refine ⟨ρ, S, env, a, (Aft.bind f).mono fun x S1 ρ1 H1 e1 r1 f1 => fun v hv => ⟨ρ1, S1, env, a.ext e1 r1, (Aft.bind f1).mono fun y S2 ρ2 H2 e2 r2 f2 => fun u hu => ?_⟩⟩
  refine hg ρ2 S2 H2 x y v u _ _ r2 (hv.ext e2) hu ((Aft.bind f2).mono fun z S3 ρ3 H3 e3 r3 f3 => fun zv hz => ?_)
  cases hz with
  | bl k =>
    cases k with
    | true =>
      refine ⟨true, rfl, ?_⟩
      rw [if_pos rfl]
      exact ⟨ρ3, S3, env, ((a.ext e1 r1).ext e2 r2).ext e3 r3, (Aft.bind f3).mono fun w S4 ρ4 H4 e4 r4 f4 => fun wv hw => hg' ρ4 S4 H4 y w u wv Q _ r4 (hu.ext (e3.trans e4)) hw f4⟩
    | false =>
      refine ⟨false, rfl, ?_⟩
      rw [if_neg Bool.false_ne_true]
      exact (Aft.ok f3 r3) _ (.bl false)
  | _ => exact f3.elim
theorem q_chain {op op' : CmpOp} (ho : OpR X (compareOp op) r) (ho' : OpR X (compareOp op') r') (hg : Pr2 X.K X.mg r g) (hg' : Pr2 X.K X.mg r' g') (ha : QE X W a fa) (hb : QE X W b fb) (hc : QE X W c fc)
    (hm : lastMarks [op, op'] [b, c] = false := by with_unfolding_all rfl) : QE X W (.Compare a [op, op'] [b, c] pos) (fChain g g' fa fb fc) := (pe_chain ho ho' ha hb hc hm).imp fun _ _ _ h => h.chain hg hg'
theorem qt_chain {op op' : CmpOp} (ho : OpR X (compareOp op) r) (ho' : OpR X (compareOp op') r') (hg : Pr2 X.K X.mg r g) (hg' : Pr2 X.K X.mg r' g') (ha : QE X W a fa) (hb : QE X W b fb) (hc : QE X W c fc)
    (hm : lastMarks [op, op'] [b, c] = false := by with_unfolding_all rfl) : QT X W (.Compare a [op, op'] [b, c] pos) (fB (fChain g g' fa fb fc)) := (pt_chain ho ho' ha hb hc hm).imp fun _ _ _ h => LT.test (fun _ _ _ h => h.chain hg hg') h
end

/-! ### truth, and, or, not, if -/
def dTru (x : D) (S : Store) : Option Bool := match x with
  | .non => some false
  | .bl b => some b
  | .int i => some (i != 0)
  | .tup xs => some (!xs.isEmpty)
  | .ref n => match S[n]? with
    | some (.lst xs) => some (!xs.isEmpty)
    | _ => none
  | _ => none
theorem RDs.isEmpty {K : PySem.W.Frag} {mg : Str → Option Value} {ρ : Nat → Addr} {N : Nat} {H : Hp} {ds : List D} {vs : List V} (r : RDs K mg ρ N H ds vs) : ds.isEmpty = vs.isEmpty := by
  cases r <;> rfl
theorem tru_of {K : PySem.W.Frag} {mg : Str → Option Value} {ρ : Nat → Addr} {S : Store} {H : Hp} {x : D} {v : V} {k : Bool} (rel : Rel K mg ρ S H) (r : RD K mg ρ S.length H x v) (h : dTru x S = some k) : TruV K v H k := by
  cases r with
  | non => exact (Option.some.inj h).symm
  | bl b => exact (Option.some.inj h).symm
  | int i => exact (Option.some.inj h).symm
  | str x => cases h
  | tup q t => exact .inr (.inl ⟨_, q, (Option.some.inj h).symm.trans (by rw [t.isEmpty])⟩)
  | @ref n a hn e =>
    cases hs : S[n]? with
    | none => simp [dTru, hs] at h
    | some o =>
      have ro := rel.obj _ _ hs
      cases ro with
      | lst h1 h2 =>
        simp only [dTru, hs, Option.some.injEq] at h
        exact .inl ⟨_, .inl (.inl (by rw [e]; exact h1)), by rw [← h, h2.isEmpty]⟩
      | scr h1 h2 => simp [dTru, hs] at h
      | dK h1 h2 => simp [dTru, hs] at h
  | gl q => cases h
  | ty n => cases h
def fTru (f : Ev) : EnvP → Store → R Bool := fun env S => (f env S).bind fun x S1 => match dTru x S1 with
  | some k => .ok k S1
  | none => .bad
section
variable {a b c : Expr} {fa fb : Ev} {ta tb : EnvP → Store → R Bool} {rest : List Expr} {pos : Pos}
theorem LE.tru {K : PySem.W.Frag} {mg : Str → Option Value} {σ : L2.St} {H : Hp} {Q : Bool → Hp → Prop} (h : LT K mg W (fTru fa) σ H Q) : LE K mg W fa σ H fun x H' => ∃ k, TruV K x H' k ∧ Q k H' := by
  obtain ⟨ρ, S, env, a, q⟩ := h
  refine ⟨ρ, S, env, a, (Aft.bind q).mono fun x S1 ρ1 H1 e1 r1 f1 => fun v hv => ?_⟩
  split at f1
  · rename_i k hk
    exact ⟨k, tru_of r1 hv hk, Aft.ok f1 r1⟩
  · exact f1.elim
/-- a name, a call, a subscript as a test -/
theorem qt_tru (ha : QE X W a fa) (he : ∀ whole, isTrue a X.env whole = (do let v ← whole; standAt a.pos; holding [v] (truthy v)) := by intro _; rfl) : QT X W a (fTru fa) := (pt_truth ha he).imp fun _ _ _ h => LE.tru h
def fNotB (t : EnvP → Store → R Bool) : EnvP → Store → R Bool := fun env S => (t env S).bind fun k S1 => .ok (!k) S1
theorem qt_not (ha : QT X W a ta) : QT X W (.UnaryOp .Not a pos) (fNotB ta) := by
  refine (pt_not ha).imp fun σ H Q h => ?_
  obtain ⟨ρ, S, env, a, q⟩ := h
  exact ⟨ρ, S, env, a, (Aft.bind q).mono fun k S1 ρ1 H1 e1 r1 f1 => Aft.ok (P := PB Q) (E := WE W σ) f1 r1⟩
def fAndB (t u : EnvP → Store → R Bool) : EnvP → Store → R Bool := fun env S => (t env S).bind fun k S1 => if k = true then u env S1 else .ok false S1
def fOrB (t u : EnvP → Store → R Bool) : EnvP → Store → R Bool := fun env S => (t env S).bind fun k S1 => if k = true then .ok true S1 else u env S1
theorem qw_and1 (ha : QT X W a ta) : QW X W (.BoolOp .And [a] pos) ta := pw_and1 ha
theorem qw_or1 (ha : QT X W a ta) : QW X W (.BoolOp .Or [a] pos) ta := pw_or1 ha
theorem qw_and (ha : QT X W a ta) (hb : QW X W (.BoolOp .And (b :: rest) pos) tb) : QW X W (.BoolOp .And (a :: b :: rest) pos) (fAndB ta tb) := by
  refine (pw_and ha hb).imp fun σ H Q h => ?_
  obtain ⟨ρ, S, env, a, q⟩ := h
  refine ⟨ρ, S, env, a, (Aft.bind q).mono fun k S1 ρ1 H1 e1 r1 f1 => ?_⟩
  show if k = true then _ else _
  split at f1
  · rw [if_pos ‹_›]
    exact ⟨ρ1, S1, env, a.ext e1 r1, f1⟩
  · rw [if_neg ‹_›]
    exact Aft.ok f1 r1
theorem qw_or (ha : QT X W a ta) (hb : QW X W (.BoolOp .Or (b :: rest) pos) tb) : QW X W (.BoolOp .Or (a :: b :: rest) pos) (fOrB ta tb) := by
  refine (pw_or ha hb).imp fun σ H Q h => ?_
  obtain ⟨ρ, S, env, a, q⟩ := h
  refine ⟨ρ, S, env, a, (Aft.bind q).mono fun k S1 ρ1 H1 e1 r1 f1 => ?_⟩
  show if k = true then _ else _
  split at f1
  · rw [if_pos ‹_›]
    exact Aft.ok f1 r1
  · rw [if_neg ‹_›]
    exact ⟨ρ1, S1, env, a.ext e1 r1, f1⟩
theorem qt_w (h : QW X W a ta) : QT X W a ta := h.pt
/-- values, by truth -/
def fAnd (f g : Ev) : Ev := fun env S => (f env S).bind fun x S1 => match dTru x S1 with
  | some true => g env S1
  | some false => .ok x S1
  | none => .bad
def fOr (f g : Ev) : Ev := fun env S => (f env S).bind fun x S1 => match dTru x S1 with
  | some true => .ok x S1
  | some false => g env S1
  | none => .bad
def fNot (f : Ev) : Ev := fun env S => (f env S).bind fun x S1 => match dTru x S1 with
  | some k => .ok (.bl (!k)) S1
  | none => .bad
theorem q_one {op} {f : Ev} (h : QE X W a f) : QE X W (.BoolOp op [a] pos) f := pe_one h
theorem q_and (ha : QE X W a fa) (hb : QE X W (.BoolOp .And (b :: rest) pos) fb) : QE X W (.BoolOp .And (a :: b :: rest) pos) (fAnd fa fb) := by
  refine (pe_andT ha hb).imp fun σ H Q h => ?_
  obtain ⟨ρ, S, env, a, q⟩ := h
  refine ⟨ρ, S, env, a, (Aft.bind q).mono fun x S1 ρ1 H1 e1 r1 f1 => fun v hv => ?_⟩
  split at f1
  · exact ⟨true, tru_of r1 hv ‹_›, by rw [if_pos rfl]; exact ⟨ρ1, S1, env, a.ext e1 r1, f1⟩⟩
  · exact ⟨false, tru_of r1 hv ‹_›, by rw [if_neg Bool.false_ne_true]; exact (Aft.ok f1 r1) v hv⟩
  · exact f1.elim
theorem q_or (ha : QE X W a fa) (hb : QE X W (.BoolOp .Or (b :: rest) pos) fb) : QE X W (.BoolOp .Or (a :: b :: rest) pos) (fOr fa fb) := by
  refine (pe_orT ha hb).imp fun σ H Q h => ?_
  obtain ⟨ρ, S, env, a, q⟩ := h
  refine ⟨ρ, S, env, a, (Aft.bind q).mono fun x S1 ρ1 H1 e1 r1 f1 => fun v hv => ?_⟩
  split at f1
  · exact ⟨true, tru_of r1 hv ‹_›, by rw [if_pos rfl]; exact (Aft.ok f1 r1) v hv⟩
  · exact ⟨false, tru_of r1 hv ‹_›, by rw [if_neg Bool.false_ne_true]; exact ⟨ρ1, S1, env, a.ext e1 r1, f1⟩⟩
  · exact f1.elim
theorem q_not (ha : QE X W a fa) : QE X W (.UnaryOp .Not a pos) (fNot fa) := by
  refine (pe_notT ha).imp fun σ H Q h => ?_
  obtain ⟨ρ, S, env, a, q⟩ := h
  refine ⟨ρ, S, env, a, (Aft.bind q).mono fun x S1 ρ1 H1 e1 r1 f1 => fun v hv => ?_⟩
  split at f1
  · exact ⟨_, tru_of r1 hv ‹_›, (Aft.ok f1 r1) _ (.bl _)⟩
  · exact f1.elim
def fIf (t : EnvP → Store → R Bool) (f g : Ev) : Ev := fun env S => (t env S).bind fun k S1 => if k = true then f env S1 else g env S1
theorem q_if (hc : QT X W c ta) (ha : QE X W a fa) (hb : QE X W b fb) : QE X W (.IfExp c a b pos) (fIf ta fa fb) := by
  refine (pe_ifExp hc ha hb).imp fun σ H Q h => ?_
  obtain ⟨ρ, S, env, a, q⟩ := h
  refine ⟨ρ, S, env, a, (Aft.bind q).mono fun k S1 ρ1 H1 e1 r1 f1 => ?_⟩
  show if k = true then _ else _
  split at f1
  · rw [if_pos ‹_›]
    exact ⟨ρ1, S1, env, a.ext e1 r1, f1⟩
  · rw [if_neg ‹_›]
    exact ⟨ρ1, S1, env, a.ext e1 r1, f1⟩
end

/-! ### argument lists, displays -/
section
variable {e : Expr} {es : List Expr} {f : Ev} {fs : EnvP → Store → R (List D)} {pos : Pos}
def fNil : EnvP → Store → R (List D) := fun _ S => .ok [] S
def fCons (f : Ev) (fs : EnvP → Store → R (List D)) : EnvP → Store → R (List D) := fun env S => (f env S).bind fun x S1 => (fs env S1).bind fun xs S2 => .ok (x :: xs) S2
theorem qa_nil : QA X W [] fNil := pa_nil.imp fun σ H Q h => by
  obtain ⟨ρ, S, env, a, q⟩ := h
  exact (Aft.ok q a.rel) [] .nil
theorem qa_cons (ha : QE X W e f) (hr : QA X W es fs) (hs : starEach (e :: es) X.env = (false, eval e X.env) :: starEach es X.env := by rfl) : QA X W (e :: es) (fCons f fs) := by
  refine (pa_cons ha hr hs).imp fun σ H Q h => ?_
  obtain ⟨ρ, S, env, a, q⟩ := h
  refine ⟨ρ, S, env, a, (Aft.bind q).mono fun x S1 ρ1 H1 e1 r1 f1 => fun v hv => ⟨ρ1, S1, env, a.ext e1 r1, (Aft.bind f1).mono fun xs S2 ρ2 H2 e2 r2 f2 => fun vs hvs => ?_⟩⟩
  exact (Aft.ok f2 r2) (v :: vs) (.cons (hv.ext e2) hvs)
def fTup (fs : EnvP → Store → R (List D)) : Ev := fun env S => (fs env S).bind fun xs S1 => if xs.length ≤ 1000 then .ok (.tup xs) S1 else .bad
def fLst (fs : EnvP → Store → R (List D)) : Ev := fun env S => (fs env S).bind fun xs S1 => if xs.length ≤ 1000 then .ok (.ref S1.length) (S1 ++ [.lst xs]) else .bad
theorem line1000 {n : Nat} (h : n ≤ 1000) : n ≤ sizeLine := Nat.le_of_lt (small1000 h)
/-- a new tuple, a new list -/
theorem aft_tup {K : PySem.W.Frag} {mg : Str → Option Value} {ρ : Nat → Addr} {S : Store} {H : Hp} {ds : List D} {vs : List V} {Q : VK} {E : XK} (rel : Rel K mg ρ S H) (r : RDs K mg ρ S.length H ds vs) (h : Aft K mg ρ S.length H (.ok (.tup ds) S) (PV K mg Q) E) {p : Addr} (hp : H p = none) : Q (.ref p) (upd H p (.tup vs)) :=
  h ρ _ (.new hp) (rel.new_imm hp) _ (.tup (SqT.of upd_same) (r.ext (.new hp)))
theorem aft_lst {K : PySem.W.Frag} {mg : Str → Option Value} {ρ : Nat → Addr} {S : Store} {H : Hp} {ds : List D} {vs : List V} {Q : VK} {E : XK} (rel : Rel K mg ρ S H) (r : RDs K mg ρ S.length H ds vs) (h : Aft K mg ρ S.length H (.ok (.ref S.length) (S ++ [.lst ds])) (PV K mg Q) E) {p : Addr} (hp : H p = none) : Q (.ref p) (upd H p (.lst vs)) := by
  have e : Ext ρ S.length H (push ρ S.length p) (S.length + 1) (upd H p (.lst vs)) := .push hp
  refine h (push ρ S.length p) _ (by rw [List.length_append]; exact e) (rel.push hp (.lst upd_same (r.ext e))) _ (.ref (by rw [List.length_append]; exact Nat.lt_succ_self _) push_same.symm)
theorem q_tup {x1} (h : QA X W es fs) : QE X W (.Tuple es x1 pos) (fTup fs) := by
  refine (pe_tup h).imp fun σ H Q h => ?_
  obtain ⟨ρ, S, env, a, q⟩ := h
  refine ⟨ρ, S, env, a, (Aft.bind q).mono fun xs S1 ρ1 H1 e1 r1 f1 => fun vs hvs => ?_⟩
  split at f1
  · exact ⟨by rw [← hvs.length]; exact line1000 ‹_›, fun p hp => aft_tup r1 hvs f1 hp⟩
  · exact f1.elim
theorem q_lst (h : QA X W es fs) : QE X W (.List es pos) (fLst fs) := by
  refine (pe_lst h).imp fun σ H Q h => ?_
  obtain ⟨ρ, S, env, a, q⟩ := h
  refine ⟨ρ, S, env, a, (Aft.bind q).mono fun xs S1 ρ1 H1 e1 r1 f1 => fun vs hvs => ?_⟩
  split at f1
  · exact ⟨by rw [← hvs.length]; exact line1000 ‹_›, fun p hp => aft_lst r1 hvs f1 hp⟩
  · exact f1.elim
end

/-! ### calls of built-ins -/
section
variable {x : Str} {p pos : Pos} {e : Expr} {es : List Expr} {fs : EnvP → Store → R (List D)} {id T : String} {r : List V → Hp → VK → Prop} {g : List D → Store → R D}
def PrC (K : PySem.W.Frag) (mg : Str → Option Value) (r : List V → Hp → VK → Prop) (g : List D → Store → R D) : Prop :=
  ∀ (ρ : Nat → Addr) (S : Store) (H : Hp) (xs : List D) (vs : List V) (Q : VK) (E : XK), Rel K mg ρ S H → RDs K mg ρ S.length H xs vs → Aft K mg ρ S.length H (g xs S) (PV K mg Q) E → r vs H Q
def fCB (g : List D → Store → R D) (fs : EnvP → Store → R (List D)) : Ev := fun env S => (fs env S).bind fun xs S1 => g xs S1
theorem LE.cb {K : PySem.W.Frag} {mg : Str → Option Value} {σ : L2.St} {H : Hp} {Q : VK} (hg : PrC K mg r g) (h : LE K mg W (fCB g fs) σ H Q) : tCB r (LA K mg W fs) σ H Q := by
  obtain ⟨ρ, S, env, a, f⟩ := h
  exact ⟨ρ, S, env, a, (Aft.bind f).mono fun xs S1 ρ1 H1 e1 r1 f1 => fun vs hv => hg ρ1 S1 H1 xs vs Q _ r1 hv f1⟩
theorem q_callB (hc : CallR X (.builtin id) r) (hgr : PrC X.K X.mg r g) (hg : Gl X x) (hm : X.mg x = none) (hv : bootBuiltins x = some (.builtin id)) (ha : QA X W (e :: es) fs) (hn : x ≠ "__name__" := by decide) (hdb : (x == ("__debug__" : Str)) = false := by decide)
    (he : starEach (e :: es) X.env = (false, eval e X.env) :: starEach es X.env := by rfl) (hpl : (backTo pos (starEach es X.env)).any (·.1) = false := by rfl) : QE X W (.Call (.Name x p) (e :: es) [] pos) (fCB g fs) :=
  (pe_callB hc hg hm hv ha hn hdb he hpl).imp fun _ _ _ h => h.cb hgr
theorem q_callTy (hc : CallR X (.type T) r) (hgr : PrC X.K X.mg r g) (hg : Gl X x) (hm : X.mg x = none) (hv : bootBuiltins x = some (.type T)) (ha : QA X W (e :: es) fs) (hn : x ≠ "__name__" := by decide) (hdb : (x == ("__debug__" : Str)) = false := by decide)
    (he : starEach (e :: es) X.env = (false, eval e X.env) :: starEach es X.env := by rfl) (hpl : (backTo pos (starEach es X.env)).any (·.1) = false := by rfl) : QE X W (.Call (.Name x p) (e :: es) [] pos) (fCB g fs) :=
  (pe_callTy hc hg hm hv ha hn hdb he hpl).imp fun _ _ _ h => h.cb hgr
end
end
end EV

set_option maxRecDepth 100000
set_option autoImplicit false
/-! EV: the plain operations and their rules. -/
namespace EV
open PySem PySem.Spec PyProof.Rows L2

/-! ### ints -/
/-- not huge -/
def Sm (i : Int) : Prop := i.natAbs.log2 < 400000
instance (i : Int) : Decidable (Sm i) := inferInstanceAs (Decidable (_ < _))
def dAdd (x y : D) (S : Store) : R D := match x, y with
  | .int i, .int j => .ok (.int (i + j)) S
  | .str a, .str b => if a.length + b.length ≤ 100000 then .ok (.str (a ++ b)) S else .bad
  | .tup xs, .tup ys => if xs.length + ys.length ≤ 100000 then .ok (.tup (xs ++ ys)) S else .bad
  | .ref n, .ref m => match S[n]?, S[m]? with
    | some (.lst xs), some (.lst ys) => if xs.length + ys.length ≤ 10000000 then .ok (.ref S.length) (S ++ [.lst (xs ++ ys)]) else .bad
    | _, _ => .bad
  | _, _ => .bad
def dSub (x y : D) (S : Store) : R D := match x, y with
  | .int i, .int j => .ok (.int (i - j)) S
  | _, _ => .bad
def dMul (x y : D) (S : Store) : R D := match x, y with
  | .int i, .int j => if i.natAbs < 18446744073709551616 ∨ j.natAbs < 18446744073709551616 ∨ (Sm i ∧ Sm j) then .ok (.int (i * j)) S else .bad
  | _, _ => .bad
def dDiv (x y : D) (S : Store) : R D := match x, y with
  | .int i, .int j => if j.natAbs.log2 < 9000 then (if 0 < j then .ok (.int (i / j)) S else if j < 0 then .ok (.int (i.fdiv j)) S else .bad) else .bad
  | _, _ => .bad
def dMod (x y : D) (S : Store) : R D := match x, y with
  | .int i, .int j => if 0 < j then .ok (.int (i % j)) S else if j < 0 then .ok (.int (i.fmod j)) S else .bad
  | _, _ => .bad
def dPow (x y : D) (S : Store) : R D := match x, y with
  | .int i, .int j => if 0 ≤ j ∧ j ≤ 1000000 ∧ i.natAbs < 18446744073709551616 then .ok (.int (i ^ j.toNat)) S else .bad
  | _, _ => .bad
def dNeg (x : D) (S : Store) : R D := match x with
  | .int i => .ok (.int (-i)) S
  | _ => .bad
def dLtI (x y : D) (S : Store) : R D := match x, y with
  | .int i, .int j => .ok (.bl (decide (i < j))) S
  | _, _ => .bad
def dLeI (x y : D) (S : Store) : R D := match x, y with
  | .int i, .int j => .ok (.bl (decide (i ≤ j))) S
  | _, _ => .bad
def dGtI (x y : D) (S : Store) : R D := match x, y with
  | .int i, .int j => .ok (.bl (decide (j < i))) S
  | _, _ => .bad
def dGeI (x y : D) (S : Store) : R D := match x, y with
  | .int i, .int j => .ok (.bl (decide (j ≤ i))) S
  | _, _ => .bad
def dIsN (x y : D) (S : Store) : R D := match y with
  | .non => .ok (.bl (match x with | .non => true | _ => false)) S
  | _ => .bad
def dNotN (x y : D) (S : Store) : R D := match y with
  | .non => .ok (.bl (match x with | .non => false | _ => true)) S
  | _ => .bad

/-! ### data: values without objects -/
mutual
def D.dat : D → PyData
  | .non => .none
  | .bl b => .bool b
  | .int i => .int i
  | .str x => .str x
  | .tup xs => .tuple (D.dats xs)
  | .ref _ => .none
  | .gl _ => .none
  | .ty _ => .none
def D.dats : List D → List PyData
  | [] => []
  | x :: xs => D.dat x :: D.dats xs
end
mutual
def D.okd : D → Bool
  | .ref _ => false
  | .gl _ => false
  | .ty _ => false
  | .str x => PySem.PyData.strOk x
  | .tup xs => D.okds xs
  | .non => true
  | .bl _ => true
  | .int _ => true
def D.okds : List D → Bool
  | [] => true
  | x :: xs => D.okd x && D.okds xs
end
/-- what a value reads as: itself, or a list of such -/
def datS (S : Store) (x : D) : Option PyData := match x with
  | .ref n => match S[n]? with
    | some (.lst xs) => if D.okds xs then some (.list (D.dats xs)) else none
    | _ => none
  | d => if D.okd d then some (D.dat d) else none
def dEqB (f : Bool → Bool) (x y : D) (S : Store) : R D := match datS S x, datS S y with
  | some a, some b => if a.depth ≤ 64 ∧ b.depth ≤ 64 then .ok (.bl (f (PyData.eqv a b))) S else .bad
  | _, _ => .bad
def dEqS (f : Bool → Bool) (x y : D) (S : Store) : R D := match x, y with
  | .str a, .str b => .ok (.bl (f (decide (a = b)))) S
  | x, y => dEqB f x y S
def dEq : D → D → Store → R D := dEqS id
def dNe : D → D → Store → R D := dEqS not
section
variable {K : PySem.W.Frag} {mg : Str → Option Value} {ρ : Nat → Addr} {N : Nat} {H : Hp} {S : Store}
mutual
theorem RD.dp : ∀ {d : D} {v : V}, RD K mg ρ N H d v → D.okd d = true → Dp K H v (D.dat d) ∧ (D.dat d).canLay0 = true
  | _, _, .non, _ => ⟨.non, rfl⟩
  | _, _, .bl b, _ => ⟨.bl b, rfl⟩
  | _, _, .int i, _ => ⟨.int i, rfl⟩
  | _, _, .str x, h => ⟨.str x, h⟩
  | _, _, .tup q t, h => by
    obtain ⟨h1, h2⟩ := RDs.dp t (by simpa only [D.okd] using h)
    exact ⟨by simp only [D.dat]; exact .tup q h1, by simp only [D.dat, PyData.canLay0]; exact h2⟩
  | _, _, .ref _ _, h => by simp [D.okd] at h
  | _, _, .gl _, h => by simp [D.okd] at h
  | _, _, .ty _, h => by simp [D.okd] at h
theorem RDs.dp : ∀ {ds : List D} {vs : List V}, RDs K mg ρ N H ds vs → D.okds ds = true → DpAll K H vs (D.dats ds) ∧ PyData.canLayAll0 (D.dats ds) = true
  | _, _, .nil, _ => ⟨by simp only [D.dats]; exact .nil, rfl⟩
  | _, _, .cons r t, h => by
    simp only [D.okds, Bool.and_eq_true] at h
    obtain ⟨h1, h2⟩ := RD.dp r h.1
    obtain ⟨h3, h4⟩ := RDs.dp t h.2
    exact ⟨by simp only [D.dats]; exact .cons h1 h3, by simp only [D.dats, PyData.canLayAll0, h2, h4]; rfl⟩
end
theorem datS_dp (rel : Rel K mg ρ S H) {d : D} {v : V} {a : PyData} (r : RD K mg ρ S.length H d v) (h : datS S d = some a) (hd : a.depth ≤ 64) : Dp K H v a ∧ SeqAt.shaped a = true := by
  have sh : ∀ {a : PyData}, a.canLay0 = true → a.depth ≤ 64 → SeqAt.shaped a = true := fun h1 h2 => by
    show (_ && _) = true
    rw [h1, decide_eq_true h2]
    rfl
  have plain : D.okd d = true → some (D.dat d) = some a → Dp K H v a ∧ SeqAt.shaped a = true := fun o e => by
    cases e
    obtain ⟨h1, h2⟩ := r.dp o
    exact ⟨h1, sh h2 hd⟩
  have other : (if D.okd d then some (D.dat d) else none) = some a → Dp K H v a ∧ SeqAt.shaped a = true := fun e => by
    split at e
    · exact plain ‹_› e
    · cases e
  cases r with
  | @ref n p hn e =>
    cases hs : S[n]? with
    | none => simp [datS, hs] at h
    | some o =>
      have ro := rel.obj _ _ hs
      cases ro with
      | @lst ds vs q h1 h2 =>
        simp only [datS, hs] at h
        split at h
        · cases h
          obtain ⟨h3, h4⟩ := h2.dp ‹_›
          exact ⟨.lst (.inl (.inl (by rw [e]; exact h1))) h3, sh (by simpa only [PyData.canLay0] using h4) hd⟩
        · cases h
      | scr h1 h2 => simp [datS, hs] at h
      | dK h1 h2 => simp [datS, hs] at h
  | non => exact other (by simpa only [datS] using h)
  | bl b => exact other (by simpa only [datS] using h)
  | int i => exact other (by simpa only [datS] using h)
  | str x => exact other (by simpa only [datS] using h)
  | tup q t => exact other (by simpa only [datS] using h)
  | gl q => exact other (by simpa only [datS] using h)
  | ty n => exact other (by simpa only [datS] using h)
end

section
variable {K : PySem.W.Frag} {mg : Str → Option Value}
theorem p_add : Pr2 K mg (fun x y H Q => (rI0 fun i j => .int (i + j)) x y H Q ∨ (∃ i j, x = .str i ∧ y = .str j ∧ i.length + j.length ≤ sizeLine ∧ Q (.str (i ++ j)) H) ∨ rCatA K x y H Q ∨ rCat x y H Q) dAdd := by
  intro ρ S H x y v u Q E rel rx ry f
  unfold dAdd at f
  split at f
  · cases rx; cases ry
    exact .inl ⟨_, _, rfl, rfl, (Aft.ok f rel) _ (.int _)⟩
  · cases rx; cases ry
    split at f
    · exact .inr (.inl ⟨_, _, rfl, rfl, Nat.le_trans ‹_› (by decide), (Aft.ok f rel) _ (.str _)⟩)
    · exact f.elim
  · cases rx with
    | @tup xs a vs q t =>
      cases ry with
      | @tup ys b us q' t' =>
        split at f
        · refine .inr (.inr (.inl ⟨a, b, vs, us, rfl, rfl, q, q', by rw [← t.length, ← t'.length]; exact Nat.le_trans ‹_› (by decide), fun e => ?_, fun _ e => ?_, fun _ _ p hp => aft_tup rel (t.append t') f hp⟩))
          · subst e
            cases t
            exact (Aft.ok f rel) _ (.tup q' t')
          · subst e
            cases t'
            rw [List.append_nil] at f
            exact (Aft.ok f rel) _ (.tup q t)
        · exact f.elim
  · split at f
    · rename_i hn hm
      split at f
      · cases rx with
        | ref h1 e1 =>
          cases ry with
          | ref h2 e2 =>
            have o1 := rel.obj _ _ hn
            have o2 := rel.obj _ _ hm
            cases o1 with
            | lst a1 a2 =>
              cases o2 with
              | lst b1 b2 =>
                exact .inr (.inr (.inr ⟨_, _, _, _, rfl, rfl, by rw [e1]; exact a1, by rw [e2]; exact b1, by rw [← a2.length, ← b2.length]; exact Nat.le_trans ‹_› (by decide), fun p hp => aft_lst rel (a2.append b2) f hp⟩))
      · exact f.elim
    · exact f.elim
  · exact f.elim
theorem p_sub : Pr2 K mg (rI0 fun i j => .int (i - j)) dSub := by
  intro ρ S H x y v u Q E rel rx ry f
  unfold dSub at f
  split at f
  · cases rx; cases ry
    exact ⟨_, _, rfl, rfl, (Aft.ok f rel) _ (.int _)⟩
  · exact f.elim
theorem lt_bits {i : Int} {n : Nat} (h : i.natAbs < 2 ^ (n + 1)) : i.natAbs.log2 < n + 1 := by
  by_cases z : i.natAbs = 0
  · rw [z, Nat.log2_zero]
    omega
  · exact (Nat.log2_lt z).mpr h
theorem mul_ok {i j : Int} (h : i.natAbs < 18446744073709551616 ∨ j.natAbs < 18446744073709551616 ∨ (Sm i ∧ Sm j)) : IntMulOk i j := by
  rcases h with h | h | ⟨h1, h2⟩
  · exact .of_left (intBits_le_64 (by omega) (by omega))
  · exact .of_right (intBits_le_64 (by omega) (by omega))
  · refine CMulW.ok ?_
    unfold Sm at h1 h2
    unfold CMulW
    omega
theorem p_mul : Pr2 K mg (rI IntMulOk fun i j => .int (i * j)) dMul := by
  intro ρ S H x y v u Q E rel rx ry f
  unfold dMul at f
  split at f
  · cases rx; cases ry
    split at f
    · exact ⟨_, _, rfl, rfl, mul_ok ‹_›, (Aft.ok f rel) _ (.int _)⟩
    · exact f.elim
  · exact f.elim
def CDivG (_ j : Int) : Prop := j ≠ 0 ∧ j.natAbs.log2 < 9000
theorem p_div : Pr2 K mg (rI CDivG fun i j => .int (i.fdiv j)) dDiv := by
  intro ρ S H x y v u Q E rel rx ry f
  unfold dDiv at f
  split at f
  · rename_i i j
    cases rx; cases ry
    split at f
    · rename_i hl
      split at f
      · rename_i h0
        refine ⟨_, _, rfl, rfl, ⟨by omega, hl⟩, ?_⟩
        show Q (.int (i.fdiv j)) H
        rw [Int.fdiv_eq_ediv_of_nonneg i (by omega)]
        exact (Aft.ok f rel) _ (.int _)
      · split at f
        · exact ⟨_, _, rfl, rfl, ⟨by omega, hl⟩, (Aft.ok f rel) _ (.int _)⟩
        · exact f.elim
    · exact f.elim
  · exact f.elim
theorem p_mod : Pr2 K mg (rI (fun _ j => j ≠ 0) fun i j => .int (i.fmod j)) dMod := by
  intro ρ S H x y v u Q E rel rx ry f
  unfold dMod at f
  split at f
  · rename_i i j
    cases rx; cases ry
    split at f
    · rename_i h0
      refine ⟨_, _, rfl, rfl, by omega, ?_⟩
      show Q (.int (i.fmod j)) H
      rw [Int.fmod_eq_emod_of_nonneg i (by omega)]
      exact (Aft.ok f rel) _ (.int _)
    · split at f
      · exact ⟨_, _, rfl, rfl, by omega, (Aft.ok f rel) _ (.int _)⟩
      · exact f.elim
  · exact f.elim
theorem p_pow : Pr2 K mg (rI CPow fun i j => .int (i ^ j.toNat)) dPow := by
  intro ρ S H x y v u Q E rel rx ry f
  unfold dPow at f
  split at f
  · cases rx; cases ry
    split at f
    · exact ⟨_, _, rfl, rfl, ‹_›, (Aft.ok f rel) _ (.int _)⟩
    · exact f.elim
  · exact f.elim
theorem p_neg : Pr1 K mg (rU fun i => .int (-i)) dNeg := by
  intro ρ S H x v Q E rel rx f
  unfold dNeg at f
  split at f
  · cases rx
    exact ⟨_, rfl, (Aft.ok f rel) _ (.int _)⟩
  · exact f.elim
theorem p_lt : Pr2 K mg (rI0 fun i j => .bl (decide (i < j))) dLtI := by
  intro ρ S H x y v u Q E rel rx ry f
  unfold dLtI at f
  split at f
  · cases rx; cases ry
    exact ⟨_, _, rfl, rfl, (Aft.ok f rel) _ (.bl _)⟩
  · exact f.elim
theorem p_le : Pr2 K mg (rI0 fun i j => .bl (decide (i ≤ j))) dLeI := by
  intro ρ S H x y v u Q E rel rx ry f
  unfold dLeI at f
  split at f
  · cases rx; cases ry
    exact ⟨_, _, rfl, rfl, (Aft.ok f rel) _ (.bl _)⟩
  · exact f.elim
theorem p_gt : Pr2 K mg (rI0 fun i j => .bl (decide (j < i))) dGtI := by
  intro ρ S H x y v u Q E rel rx ry f
  unfold dGtI at f
  split at f
  · cases rx; cases ry
    exact ⟨_, _, rfl, rfl, (Aft.ok f rel) _ (.bl _)⟩
  · exact f.elim
theorem p_ge : Pr2 K mg (rI0 fun i j => .bl (decide (j ≤ i))) dGeI := by
  intro ρ S H x y v u Q E rel rx ry f
  unfold dGeI at f
  split at f
  · cases rx; cases ry
    exact ⟨_, _, rfl, rfl, (Aft.ok f rel) _ (.bl _)⟩
  · exact f.elim
theorem p_isN : Pr2 K mg (fun x y H Q => y = .non ∧ Q (.bl (decide (x = .non))) H) dIsN := by
  intro ρ S H x y v u Q E rel rx ry f
  unfold dIsN at f
  split at f
  · cases ry
    refine ⟨rfl, ?_⟩
    have g := (Aft.ok f rel) _ (.bl _)
    cases rx <;> exact g
  · exact f.elim
theorem p_notN : Pr2 K mg (fun x y H Q => y = .non ∧ Q (.bl (!decide (x = .non))) H) dNotN := by
  intro ρ S H x y v u Q E rel rx ry f
  unfold dNotN at f
  split at f
  · cases ry
    refine ⟨rfl, ?_⟩
    have g := (Aft.ok f rel) _ (.bl _)
    cases rx <;> exact g
  · exact f.elim
theorem p_eqB {h : Bool → Bool} {x y : D} {v u : V} {ρ : Nat → Addr} {S : Store} {H : Hp} {Q : VK} {E : XK} (rel : Rel K mg ρ S H) (rx : RD K mg ρ S.length H x v) (ry : RD K mg ρ S.length H y u) (f : Aft K mg ρ S.length H (dEqB h x y S) (PV K mg Q) E) :
    ∃ d e, Dp K H v d ∧ Dp K H u e ∧ SeqAt.shaped d = true ∧ SeqAt.shaped e = true ∧ Q (.bl (h (PyData.eqv d e))) H := by
  unfold dEqB at f
  split at f
  · rename_i a b ha hb
    split at f
    · rename_i hd
      obtain ⟨h1, h2⟩ := datS_dp rel rx ha hd.1
      obtain ⟨h3, h4⟩ := datS_dp rel ry hb hd.2
      exact ⟨a, b, h1, h3, h2, h4, (Aft.ok f rel) _ (.bl _)⟩
    · exact f.elim
  · exact f.elim
theorem p_eq : Pr2 K mg (fun x y H Q => rEq x y H Q ∨ rEqD K x y H Q) dEq := fun ρ S H x y v u Q E rel rx ry f => by
  unfold dEq dEqS at f
  split at f
  · rename_i a b
    cases rx; cases ry
    refine .inl ⟨rfl, ?_⟩
    have g := (Aft.ok f rel) _ (.bl _)
    rw [show decide (V.str a = V.str b) = decide (a = b) by simp]
    exact g
  · exact .inr (p_eqB (h := id) rel rx ry f)
theorem p_ne : Pr2 K mg (fun x y H Q => rNe x y H Q ∨ rNeD K x y H Q) dNe := fun ρ S H x y v u Q E rel rx ry f => by
  unfold dNe dEqS at f
  split at f
  · rename_i a b
    cases rx; cases ry
    refine .inl ⟨rfl, ?_⟩
    have g := (Aft.ok f rel) _ (.bl _)
    rw [show decide (V.str a = V.str b) = decide (a = b) by simp]
    exact g
  · exact .inr (p_eqB (h := not) rel rx ry f)
theorem o_eq {X : Cx} (hu : X.A.units + 64 < cLine) : OpR X (compareOp .Eq) (fun x y H Q => rEq x y H Q ∨ rEqD X.K x y H Q) := fun pins s σ H x y v u Q I rx ry h => by
  rcases h with h | h
  · exact op_eq pins s σ H x y v u Q I rx ry h
  · exact op_eqD hu pins s σ H x y v u Q I rx ry h
theorem o_ne {X : Cx} (hu : X.A.units + 64 < cLine) : OpR X (compareOp .NotEq) (fun x y H Q => rNe x y H Q ∨ rNeD X.K x y H Q) := fun pins s σ H x y v u Q I rx ry h => by
  rcases h with h | h
  · exact op_ne pins s σ H x y v u Q I rx ry h
  · exact op_neD hu pins s σ H x y v u Q I rx ry h
/-! ### dicts with int and text keys -/
def D.keq (a b : D) : Bool := match a, b with
  | .int i, .int j => decide (i = j)
  | .str x, .str y => decide (x = y)
  | .tup _, .tup _ => D.okd a && (D.okd b && PyData.eqv (D.dat a) (D.dat b))
  | _, _ => false
def D.skey : D → Bool
  | .int _ => true
  | .str _ => true
  | _ => false
def dGet (kds : List (D × D)) (k : D) : Option D := match kds with
  | [] => none
  | p :: r => if D.keq p.1 k then some p.2 else dGet r k
def dHas (kds : List (D × D)) (k : D) : Bool := (dGet kds k).isSome
def dRepl (kds : List (D × D)) (k v : D) : List (D × D) := kds.map fun p => if D.keq p.1 k then (p.1, v) else p
def dPut (kds : List (D × D)) (k v : D) : List (D × D) := if dHas kds k then dRepl kds k v else kds ++ [(k, v)]
def keyOf : D → Option Key
  | .int i => some (.inl i)
  | .str x => some (.inr x)
  | _ => none
theorem keyOf_rd {ρ : Nat → Addr} {N : Nat} {H : Hp} {d : D} {v : V} {k : Key} (r : RD K mg ρ N H d v) (h : keyOf d = some k) : v = kV k := by
  cases r <;> cases h <;> rfl
theorem keq_key {d e : D} {j k : Key} (h : keyOf d = some j) (h' : keyOf e = some k) : D.keq d e = decide (j = k) := by
  cases d <;> cases h <;> cases e <;> cases h'
  · rename_i a b; by_cases z : a = b
    · subst z; simp [D.keq]
    · simp [D.keq, z]
  · simp [D.keq]
  · simp [D.keq]
  · rename_i a b; by_cases z : a = b
    · subst z; simp [D.keq]
    · simp [D.keq, z]
theorem RKV.get {ρ : Nat → Addr} {N : Nat} {H : Hp} {e : D} {k : Key} (hk : keyOf e = some k) : ∀ {kds : List (D × D)} {kvs : List (Key × V)}, RKV K mg ρ N H kds kvs →
    (∀ d, dGet kds e = some d → ∃ v, valV kvs k = some v ∧ RD K mg ρ N H d v) ∧ (dGet kds e = none → valV kvs k = none)
  | _, _, .nil => ⟨fun _ h => (nomatch h), fun _ => rfl⟩
  | _, _, .int (i := i) (d := d0) (v := v0) r t => by
    obtain ⟨h1, h2⟩ := RKV.get hk t
    have q := keq_key (d := .int i) (j := .inl i) rfl hk
    unfold dGet
    rw [q]
    by_cases z : (Sum.inl i : Key) = k
    · rw [valV_pos (p := (Sum.inl i, v0)) z]
      simp only [z, decide_true, if_true]
      exact ⟨fun d h => by cases h; exact ⟨_, rfl, r⟩, fun h => nomatch h⟩
    · rw [valV_neg (p := (Sum.inl i, v0)) z]
      simp only [z, decide_false, Bool.false_eq_true, if_false]
      exact ⟨h1, h2⟩
  | _, _, .str (x := i) (d := d0) (v := v0) r t => by
    obtain ⟨h1, h2⟩ := RKV.get hk t
    have q := keq_key (d := .str i) (j := .inr i) rfl hk
    unfold dGet
    rw [q]
    by_cases z : (Sum.inr i : Key) = k
    · rw [valV_pos (p := (Sum.inr i, v0)) z]
      simp only [z, decide_true, if_true]
      exact ⟨fun d h => by cases h; exact ⟨_, rfl, r⟩, fun h => nomatch h⟩
    · rw [valV_neg (p := (Sum.inr i, v0)) z]
      simp only [z, decide_false, Bool.false_eq_true, if_false]
      exact ⟨h1, h2⟩
theorem RKV.has {ρ : Nat → Addr} {N : Nat} {H : Hp} {e : D} {k : Key} (hk : keyOf e = some k) {kds : List (D × D)} {kvs : List (Key × V)} (r : RKV K mg ρ N H kds kvs) : (valV kvs k).isSome = dHas kds e := by
  obtain ⟨h1, h2⟩ := r.get hk
  unfold dHas
  cases q : dGet kds e with
  | none => rw [h2 q]; rfl
  | some d => obtain ⟨v, h3, _⟩ := h1 d q; rw [h3]; rfl
theorem RKV.repl {ρ : Nat → Addr} {N : Nat} {H : Hp} {e d : D} {v : V} {k : Key} (hk : keyOf e = some k) (rv : RD K mg ρ N H d v) : ∀ {kds : List (D × D)} {kvs : List (Key × V)}, RKV K mg ρ N H kds kvs → RKV K mg ρ N H (dRepl kds e d) (kvs.map fun kv => if kv.1 = k then (kv.1, v) else kv)
  | _, _, .nil => .nil
  | _, _, .int (i := i) r t => by
    have q := keq_key (d := .int i) (j := .inl i) rfl hk
    have ih := RKV.repl hk rv t
    unfold dRepl at ih ⊢
    rw [List.map_cons, List.map_cons, q]
    by_cases z : (Sum.inl i : Key) = k
    · subst z
      simp only [decide_true, if_true]
      exact .int rv ih
    · simp only [z, decide_false, Bool.false_eq_true, if_false]
      exact .int r ih
  | _, _, .str (x := i) r t => by
    have q := keq_key (d := .str i) (j := .inr i) rfl hk
    have ih := RKV.repl hk rv t
    unfold dRepl at ih ⊢
    rw [List.map_cons, List.map_cons, q]
    by_cases z : (Sum.inr i : Key) = k
    · subst z
      simp only [decide_true, if_true]
      exact .str rv ih
    · simp only [z, decide_false, Bool.false_eq_true, if_false]
      exact .str r ih
theorem RKV.snoc {ρ : Nat → Addr} {N : Nat} {H : Hp} {e d : D} {v : V} {k : Key} (hk : keyOf e = some k) (rv : RD K mg ρ N H d v) : ∀ {kds : List (D × D)} {kvs : List (Key × V)}, RKV K mg ρ N H kds kvs → RKV K mg ρ N H (kds ++ [(e, d)]) (kvs ++ [(k, v)])
  | _, _, .nil => by
    cases e <;> cases hk
    · exact .int rv .nil
    · exact .str rv .nil
  | _, _, .int r t => .int r (RKV.snoc hk rv t)
  | _, _, .str r t => .str r (RKV.snoc hk rv t)
theorem RKV.put {ρ : Nat → Addr} {N : Nat} {H : Hp} {e d : D} {v : V} {k : Key} (hk : keyOf e = some k) (rv : RD K mg ρ N H d v) {kds : List (D × D)} {kvs : List (Key × V)} (r : RKV K mg ρ N H kds kvs) : RKV K mg ρ N H (dPut kds e d) (putK kvs k v) := by
  unfold dPut putK
  rw [valV_any, r.has hk]
  split
  · exact r.repl hk rv
  · exact r.snoc hk rv
theorem ref_dic {ρ : Nat → Addr} {S : Store} {H : Hp} {n : Nat} {v : V} {kds : List (D × D)} (rel : Rel K mg ρ S H) (r : RD K mg ρ S.length H (.ref n) v) (h : S[n]? = some (.dic kds)) : v = .ref (ρ n) ∧ ∃ kvs, H (ρ n) = some (.dK kvs) ∧ RKV K mg ρ S.length H kds kvs := by
  cases r with
  | ref _ e =>
    have o := rel.obj _ _ h
    cases o with
    | dK a1 a2 => exact ⟨by rw [e], _, a1, a2⟩
/-- the dict that a value stands for -/
def dicOf (S : Store) (y : D) : Option (List (D × D)) := match y with
  | .ref n => match S[n]? with
    | some (.dic kds) => some kds
    | _ => none
  | _ => none
theorem dicOf_ref {S : Store} {y : D} {kds : List (D × D)} (h : dicOf S y = some kds) : ∃ n, y = .ref n ∧ S[n]? = some (.dic kds) := by
  unfold dicOf at h
  split at h
  · split at h
    · rename_i n _ kds' hs
      cases h
      exact ⟨n, rfl, hs⟩
    · cases h
  · cases h
/-- x in a list, a tuple of data; in a dict -/
def dIn (neg : Bool) (x y : D) (S : Store) : R D := match dicOf S y with
  | some kds => if D.skey x then .ok (.bl (dHas kds x != neg)) S else .bad
  | none => match datS S x, datS S y with
    | some a, some (.list bs) => if a.depth ≤ 64 ∧ PyData.depth (.list bs) ≤ 64 then .ok (.bl ((bs.any fun z => PyData.eqv z a) != neg)) S else .bad
    | some a, some (.tuple bs) => if a.depth ≤ 64 ∧ PyData.depth (.tuple bs) ≤ 64 then .ok (.bl ((bs.any fun z => PyData.eqv z a) != neg)) S else .bad
    | _, _ => .bad
theorem skey_of {x : D} (h : D.skey x = true) : ∃ k, keyOf x = some k := by
  cases x <;> first | exact ⟨_, rfl⟩ | cases h
def rDIn (neg : Bool) : R2 := fun y x H Q => ∃ a o, x = .ref a ∧ DGet H a y o ∧ Q (.bl (o.isSome != neg)) H
def rInTD (K : PySem.W.Frag) (neg : Bool) : R2 := fun x y H Q => ∃ d ds, Dp K H x d ∧ Dp K H y (.tuple ds) ∧ SeqAt.shaped d = true ∧ SeqAt.shaped (.tuple ds) = true ∧ Q (.bl ((ds.any fun z => PyData.eqv z d) != neg)) H
def rInLD (K : PySem.W.Frag) (neg : Bool) : R2 := fun x y H Q => ∃ d ds, Dp K H x d ∧ Dp K H y (.list ds) ∧ SeqAt.shaped d = true ∧ SeqAt.shaped (.list ds) = true ∧ Q (.bl ((ds.any fun z => PyData.eqv z d) != neg)) H
theorem p_in (neg : Bool) : Pr2 K mg (fun x y H Q => rDIn neg x y H Q ∨ rInLD K neg x y H Q ∨ rInTD K neg x y H Q) (dIn neg) := by
  intro ρ S H x y v u Q E rel rx ry f
  unfold dIn at f
  split at f
  · rename_i kds hd
    obtain ⟨n, rfl, hs⟩ := dicOf_ref hd
    split at f
    · rename_i hk
      obtain ⟨k, hk⟩ := skey_of hk
      obtain ⟨e, kvs, h1, h2⟩ := ref_dic rel ry hs
      subst e
      have ev := keyOf_rd rx hk
      subst ev
      refine .inl ⟨_, _, rfl, DGet.k h1, ?_⟩
      rw [h2.has hk]
      exact (Aft.ok f rel) _ (.bl _)
    · exact f.elim
  · split at f
    · rename_i a bs ha hb
      split at f
      · rename_i hd
        obtain ⟨h1, h2⟩ := datS_dp rel rx ha hd.1
        obtain ⟨h3, h4⟩ := datS_dp rel ry hb hd.2
        exact .inr (.inl ⟨a, bs, h1, h3, h2, h4, (Aft.ok f rel) _ (.bl _)⟩)
      · exact f.elim
    · rename_i a bs ha hb
      split at f
      · rename_i hd
        obtain ⟨h1, h2⟩ := datS_dp rel rx ha hd.1
        obtain ⟨h3, h4⟩ := datS_dp rel ry hb hd.2
        exact .inr (.inr ⟨a, bs, h1, h3, h2, h4, (Aft.ok f rel) _ (.bl _)⟩)
      · exact f.elim
    · exact f.elim
/-! ### items -/
def dIx (x y : D) (S : Store) : R D := match dicOf S x with
  | some kds => if D.skey y then (match dGet kds y with
    | some d => .ok d S
    | none => .bad) else .bad
  | none => match x, y with
    | .tup xs, .int i => match atI xs i with
      | some d => .ok d S
      | none => .bad
    | .ref n, .int i => match S[n]? with
      | some (.lst xs) => match atI xs i with
        | some d => .ok d S
        | none => .bad
      | _ => .bad
    | _, _ => .bad
def rDIx : R2 := fun x y H Q => ∃ a v, x = .ref a ∧ DGet H a y (some v) ∧ Q v H
theorem RDs.atI {ρ : Nat → Addr} {N : Nat} {H : Hp} {ds : List D} {vs : List V} {i : Int} {d : D} (r : RDs K mg ρ N H ds vs) (h : L2.atI ds i = some d) : ∃ v, L2.atI vs i = some v ∧ RD K mg ρ N H d v := by
  unfold L2.atI at h ⊢
  rw [← r.length]
  cases e : ixN ds.length i with
  | none => rw [e] at h; cases h
  | some j =>
    rw [e] at h
    obtain ⟨v, h1, h2⟩ := r.get h
    exact ⟨v, h1, h2⟩
theorem p_ix : Pr2 K mg (fun x y H Q => rIxL K x y H Q ∨ rIxT K x y H Q ∨ rDIx x y H Q) dIx := by
  intro ρ S H x y v u Q E rel rx ry f
  unfold dIx at f
  split at f
  · rename_i kds hd
    obtain ⟨n, rfl, hs⟩ := dicOf_ref hd
    split at f
    · rename_i hk
      obtain ⟨k, hk⟩ := skey_of hk
      obtain ⟨e, kvs, h1, h2⟩ := ref_dic rel rx hs
      subst e
      have ev := keyOf_rd ry hk
      subst ev
      split at f
      · rename_i d hg
        obtain ⟨w, g1, g2⟩ := (h2.get hk).1 d hg
        exact .inr (.inr ⟨_, w, rfl, by rw [← g1]; exact DGet.k h1, (Aft.ok f rel) _ g2⟩)
      · exact f.elim
    · exact f.elim
  split at f
  · cases ry
    cases rx with
    | tup q t =>
      split at f
      · rename_i d hd
        obtain ⟨w, h1, h2⟩ := t.atI hd
        exact .inr (.inl ⟨_, _, _, _, rfl, rfl, q, h1, (Aft.ok f rel) _ h2⟩)
      · exact f.elim
  · cases ry
    split at f
    · rename_i xs hs
      split at f
      · rename_i d hd
        cases rx with
        | ref h e =>
          have o := rel.obj _ _ hs
          cases o with
          | lst a1 a2 =>
            obtain ⟨w, h1, h2⟩ := a2.atI hd
            exact .inl ⟨_, _, _, _, rfl, rfl, .inl (.inl (by rw [e]; exact a1)), h1, (Aft.ok f rel) _ h2⟩
      · exact f.elim
    · exact f.elim
  · exact f.elim
end
section
variable {X : Cx}
theorem o_add : OpR X (binaryOp .Add) (fun x y H Q => (rI0 fun i j => .int (i + j)) x y H Q ∨ (∃ i j, x = .str i ∧ y = .str j ∧ i.length + j.length ≤ sizeLine ∧ Q (.str (i ++ j)) H) ∨ rCatA X.K x y H Q ∨ rCat x y H Q) := op_add.or (op_add_str.or (op_catA.or op_cat))
theorem o_mul : OpR X (binaryOp .Mult) (rI IntMulOk fun i j => .int (i * j)) := opI fun _ _ _ _ _ _ _ hc q => mul_int q hc
theorem o_div : OpR X (binaryOp .FloorDiv) (rI CDivG fun i j => .int (i.fdiv j)) := opI fun _ _ _ _ _ _ _ hc q => floordiv_int hc.1 q (.inl (PyProof.noPylong_of_log2 hc.2))
theorem ix_dic (hu : X.A.units + 1 < cLine) : IxR X rDIx := by
  intro value slice pins s σ H x y v u Q I rx ry h hs
  obtain ⟨a, w, rfl, g, q⟩ := h
  cases rx
  exact tail_any (dict_typeIs I g) PySem.F.slot_dict_getitem.lookup (d_getItem hu I g ry fun w' s3 I3 rw' => ⟨w, H, I3, rw', q⟩) hs
theorem o_ix (hu : X.A.units + 1 < cLine) : IxR X (fun x y H Q => rIxL X.K x y H Q ∨ rIxT X.K x y H Q ∨ rDIx x y H Q) := ix_list.or (ix_tup.or (ix_dic hu))
theorem op_dIn (hu : X.A.units + 1 < cLine) : OpR X (compareOp .In) (rDIn false) := by
  intro pins s σ H x y v u Q I rx ry h
  obtain ⟨a, o, rfl, g, q⟩ := h
  cases ry
  rw [Bool.bne_false] at q
  exact d_in hu I g rx fun s3 I3 => ⟨.bl o.isSome, H, I3, rfl, q⟩
theorem op_dNotIn (hu : X.A.units + 1 < cLine) : OpR X (compareOp .NotIn) (rDIn true) := by
  intro pins s σ H x y v u Q I rx ry h
  obtain ⟨a, o, rfl, g, q⟩ := h
  cases ry
  rw [Bool.bne_true] at q
  exact d_notIn hu I g rx fun s3 I3 => ⟨.bl (!o.isSome), H, I3, rfl, q⟩
theorem op_inLD (hu : X.A.units + 65 < cLine) : OpR X (compareOp .In) (rInLD X.K false) := by
  intro pins s σ H x y v u Q I rx ry h
  obtain ⟨d, ds, h1, h2, h3, h4, q⟩ := h
  exact op_inD hu pins s σ H x y v u Q I rx ry ⟨d, ds, h1, h2, h3, h4, by rw [Bool.bne_false] at q; exact q⟩
theorem op_notInLD (hu : X.A.units + 65 < cLine) : OpR X (compareOp .NotIn) (rInLD X.K true) := by
  intro pins s σ H x y v u Q I rx ry h
  obtain ⟨d, ds, h1, h2, h3, h4, q⟩ := h
  exact op_notInD hu pins s σ H x y v u Q I rx ry ⟨d, ds, h1, h2, h3, h4, by rw [Bool.bne_true] at q; exact q⟩
theorem op_inTD (hu : X.A.units + 65 < cLine) : OpR X (compareOp .In) (rInTD X.K false) := by
  intro pins s σ H x y v u Q I rx ry h
  obtain ⟨d, ds, hd, he, sd, se, q⟩ := h
  obtain ⟨as, r1⟩ := Dp.reads I d x v hd rx
  obtain ⟨bs, r2⟩ := Dp.reads I (.tuple ds) y u he ry
  rw [Bool.bne_false] at q
  exact SeqAt.in_tuple_reads r2 r1 (SeqAt.canLay_of_shaped se) (SeqAt.canLay_of_shaped sd) (room_in_shaped sd hu) ⟨.bl _, H, I, rfl, q⟩
theorem op_notInTD (hu : X.A.units + 65 < cLine) : OpR X (compareOp .NotIn) (rInTD X.K true) := by
  intro pins s σ H x y v u Q I rx ry h
  obtain ⟨d, ds, hd, he, sd, se, q⟩ := h
  obtain ⟨as, r1⟩ := Dp.reads I d x v hd rx
  obtain ⟨bs, r2⟩ := Dp.reads I (.tuple ds) y u he ry
  rw [Bool.bne_true] at q
  exact SeqAt.notIn_tuple_reads r2 r1 (SeqAt.canLay_of_shaped se) (SeqAt.canLay_of_shaped sd) (room_in_shaped sd hu) ⟨.bl _, H, I, rfl, q⟩
theorem o_in (hu : X.A.units + 65 < cLine) : OpR X (compareOp .In) (fun x y H Q => rDIn false x y H Q ∨ rInLD X.K false x y H Q ∨ rInTD X.K false x y H Q) := (op_dIn (by omega)).or ((op_inLD hu).or (op_inTD hu))
theorem o_notIn (hu : X.A.units + 65 < cLine) : OpR X (compareOp .NotIn) (fun x y H Q => rDIn true x y H Q ∨ rInLD X.K true x y H Q ∨ rInTD X.K true x y H Q) := (op_dNotIn (by omega)).or ((op_notInLD hu).or (op_notInTD hu))
end
end EV

set_option maxRecDepth 100000
set_option autoImplicit false
/-! EV: built-in functions, slices, methods of lists. -/
namespace EV
open PySem PySem.Spec PyProof.Rows L2

section
variable {K : PySem.W.Frag} {mg : Str → Option Value}
/-! ### len, abs, min, max, int -/
def cLen (xs : List D) (S : Store) : R D := match xs with
  | [.tup ds] => .ok (.int ds.length) S
  | [.ref n] => match S[n]? with
    | some (.lst ds) => .ok (.int ds.length) S
    | some (.scr ds) => .ok (.int ds.length) S
    | some (.dic ds) => .ok (.int ds.length) S
    | _ => .bad
  | _ => .bad
theorem scr_sq {H : Hp} {a : Addr} {vs : List V} (h : (∃ o, H a = some (.frz o (.lst vs))) ∨ KList K a vs) : SqL K H a vs := by
  rcases h with ⟨o, h⟩ | h
  · exact .inl (.inr ⟨o, h⟩)
  · exact h H
theorem RKV.length {ρ : Nat → Addr} {N : Nat} {H : Hp} : ∀ {kds : List (D × D)} {kvs : List (Key × V)}, RKV K mg ρ N H kds kvs → kds.length = kvs.length
  | _, _, .nil => rfl
  | _, _, .int _ t => congrArg (· + 1) (RKV.length t)
  | _, _, .str _ t => congrArg (· + 1) (RKV.length t)
theorem p_len : PrC K mg (fun xs H Q => (∃ p ys, xs = [.ref p] ∧ (SqL K H p ys ∨ SqT K H p ys) ∧ Q (.int ys.length) H) ∨ (∃ a kvs, xs = [V.ref a] ∧ H a = some (.dK kvs) ∧ Q (.int kvs.length) H)) cLen := by
  intro ρ S H xs vs Q E rel rx f
  unfold cLen at f
  split at f
  · cases rx with
    | cons r t =>
      cases t
      cases r with
      | tup q t =>
        refine .inl ⟨_, _, rfl, .inr q, ?_⟩
        rw [← t.length]
        exact (Aft.ok f rel) _ (.int _)
  · cases rx with
    | cons r t =>
      cases t
      cases r with
      | ref h e =>
        split at f
        · have o := rel.obj _ _ ‹_›
          cases o with
          | lst a1 a2 =>
            refine .inl ⟨_, _, rfl, .inl (.inl (.inl (by rw [e]; exact a1))), ?_⟩
            rw [← a2.length]
            exact (Aft.ok f rel) _ (.int _)
        · have o := rel.obj _ _ ‹_›
          cases o with
          | scr a1 a2 =>
            refine .inl ⟨_, _, rfl, .inl (by rw [e]; exact scr_sq a1), ?_⟩
            rw [← a2.length]
            exact (Aft.ok f rel) _ (.int _)
        · have o := rel.obj _ _ ‹_›
          cases o with
          | dK a1 a2 =>
            refine .inr ⟨_, _, rfl, by rw [e]; exact a1, ?_⟩
            rw [← a2.length]
            exact (Aft.ok f rel) _ (.int _)
        · exact f.elim
  · exact f.elim
def cAbs (xs : List D) (S : Store) : R D := match xs with
  | [.int i] => .ok (.int (if i < 0 then -i else i)) S
  | _ => .bad
theorem p_abs : PrC K mg (fun xs H Q => ∃ i, xs = [.int i] ∧ Q (.int (if i < 0 then -i else i)) H) cAbs := by
  intro ρ S H xs vs Q E rel rx f
  unfold cAbs at f
  split at f
  · cases rx with
    | cons r t =>
      cases t; cases r
      exact ⟨_, rfl, (Aft.ok f rel) _ (.int _)⟩
  · exact f.elim
def cInt (xs : List D) (S : Store) : R D := match xs with
  | [.int i] => .ok (.int i) S
  | [.bl k] => .ok (.int (if k then 1 else 0)) S
  | _ => .bad
theorem p_int : PrC K mg (fun xs H Q => (∃ i, xs = [.int i] ∧ Q (.int i) H) ∨ ∃ k, xs = [.bl k] ∧ Q (.int (if k then 1 else 0)) H) cInt := by
  intro ρ S H xs vs Q E rel rx f
  unfold cInt at f
  split at f
  · cases rx with
    | cons r t =>
      cases t; cases r
      exact .inl ⟨_, rfl, (Aft.ok f rel) _ (.int _)⟩
  · cases rx with
    | cons r t =>
      cases t; cases r
      exact .inr ⟨_, rfl, (Aft.ok f rel) _ (.int _)⟩
  · exact f.elim
/-- the ints of a list of values -/
def intsOf : List D → Option (List Int)
  | [] => some []
  | .int i :: r => (intsOf r).map (i :: ·)
  | _ :: _ => none
theorem intsOf_ok {ρ : Nat → Addr} {N : Nat} {H : Hp} : ∀ {ds : List D} {ns : List Int} {vs : List V}, intsOf ds = some ns → RDs K mg ρ N H ds vs → vs = ns.map V.int
  | [], _, _, h, .nil => by cases h; rfl
  | .int i :: r, _, _, h, .cons (.int _) t => by
    unfold intsOf at h
    cases e : intsOf r with
    | none => rw [e] at h; cases h
    | some ms =>
      rw [e] at h
      cases h
      rw [intsOf_ok e t]
      rfl
def lmax : Int → List Int → Int
  | m, [] => m
  | m, x :: r => lmax (if m < x then x else m) r
def lmin : Int → List Int → Int
  | m, [] => m
  | m, x :: r => lmin (if x < m then x else m) r
theorem lmax_ge : ∀ (m : Int) (l : List Int), m ≤ lmax m l ∧ (∀ y ∈ l, y ≤ lmax m l) ∧ (lmax m l = m ∨ lmax m l ∈ l)
  | m, [] => ⟨Int.le_refl _, fun _ h => absurd h (by simp), .inl rfl⟩
  | m, x :: r => by
    obtain ⟨h1, h2, h3⟩ := lmax_ge (if m < x then x else m) r
    have a : m ≤ (if m < x then x else m) ∧ x ≤ (if m < x then x else m) := by split <;> omega
    refine ⟨Int.le_trans a.1 h1, fun y hy => ?_, ?_⟩
    · rcases List.mem_cons.mp hy with rfl | hy
      · exact Int.le_trans a.2 h1
      · exact h2 y hy
    · rcases h3 with h3 | h3
      · show lmax (if m < x then x else m) r = m ∨ lmax (if m < x then x else m) r ∈ x :: r
        rw [h3]
        split
        · exact .inr List.mem_cons_self
        · exact .inl rfl
      · exact .inr (List.mem_cons_of_mem _ h3)
theorem lmin_le : ∀ (m : Int) (l : List Int), lmin m l ≤ m ∧ (∀ y ∈ l, lmin m l ≤ y) ∧ (lmin m l = m ∨ lmin m l ∈ l)
  | m, [] => ⟨Int.le_refl _, fun _ h => absurd h (by simp), .inl rfl⟩
  | m, x :: r => by
    obtain ⟨h1, h2, h3⟩ := lmin_le (if x < m then x else m) r
    have a : (if x < m then x else m) ≤ m ∧ (if x < m then x else m) ≤ x := by split <;> omega
    refine ⟨Int.le_trans h1 a.1, fun y hy => ?_, ?_⟩
    · rcases List.mem_cons.mp hy with rfl | hy
      · exact Int.le_trans h1 a.2
      · exact h2 y hy
    · rcases h3 with h3 | h3
      · show lmin (if x < m then x else m) r = m ∨ lmin (if x < m then x else m) r ∈ x :: r
        rw [h3]
        split
        · exact .inr List.mem_cons_self
        · exact .inl rfl
      · exact .inr (List.mem_cons_of_mem _ h3)
section
variable {prog : Program} {w : World} {A : Around} {E : Value → Shared → Prop} {s : Shared} {l : Addr} {xs : Array (Int × Tok)}
theorem iter_intTup {Q : Value → Shared → Prop} (hl : s.heap.IsTuple l (intItems xs))
    (h : ∀ s₂ : Shared, s₂ = { s with heap := s.heap.push { cls := .type "tuple_iterator", data := .fields #[.ref l, .int 0 0] } } →
      (s₂.heap.IsTupleIter s.heap.objs.size l 0 ∧ s₂.heap.IsTuple l (intItems xs)) → (∀ b ∈ [s.heap.objs.size, l], b < s₂.heap.objs.size) → l ≠ s.heap.objs.size → Q (.ref s.heap.objs.size) s₂) :
    wpAny (model prog w) A (pyIter (.ref l)) Q E s := by
  have hlt : l < s.heap.objs.size := by obtain ⟨_, e, _⟩ := hl; exact Heap.lt_size e
  refine wpAny_pyIter_tuple hl (h _ rfl ⟨⟨_, Heap.get?_push_size _ rfl, rfl, rfl⟩, hl.push _⟩ (fun b hb => ?_) (Nat.ne_of_lt hlt))
  show b < (s.heap.push _).objs.size
  rw [Heap.size_push]
  rcases List.mem_cons.mp hb with rfl | hb
  · exact Nat.lt_succ_self _
  · rcases List.mem_cons.mp hb with rfl | hb
    · exact Nat.lt_succ_of_lt hlt
    · cases hb
theorem old_keptT {h' : Heap} (hk : ∀ b o, b ∉ [s.heap.objs.size] → (s.heap.push { cls := .type "tuple_iterator", data := .fields #[.ref l, .int 0 0] }).get? b = some o → h'.get? b = some o) :
    ∀ b o, s.heap.get? b = some o → h'.get? b = some o := fun b o e => by
  refine hk b o (fun hm => ?_) (Heap.get?_push_of_some _ e)
  rcases List.mem_cons.mp hm with e1 | hm
  · exact absurd (e1 ▸ Heap.lt_size e) (Nat.lt_irrefl _)
  · cases hm
theorem max_intTup {Q : Value → Shared → Prop} (hh : A.handled = none) (hl : s.heap.IsTuple l (intItems xs)) (hne : 0 < xs.size)
    (h : ∀ v h' tk, (intItems xs)[argBest (fun i j => decide (numAt xs i > numAt xs j)) (xs.size - 1)]? = some v → (∀ b o, s.heap.get? b = some o → h'.get? b = some o) → Q v { s with heap := h', toks := tk }) :
    wpAny (model prog w) A (call (.builtin "max") [.ref l]) Q E s := by
  refine call_max_walk (iter_intTup hl fun s₂ e st hfp hlI => ?_)
  subst e
  refine ⟨_, _, _, _, _, _, _, rfl, Walks.tuple (A := A.in1) hh _ l hlI (intItems xs), st, hfp, by simpa [intItems] using hne, CmpOf.ints_gt (numAt xs) (fun _ _ => intItems_at), fun v h' tk hP hk => ?_⟩
  exact h v h' tk (by simpa [intItems] using hP) (old_keptT hk)
theorem min_intTup {Q : Value → Shared → Prop} (hh : A.handled = none) (hl : s.heap.IsTuple l (intItems xs)) (hne : 0 < xs.size)
    (h : ∀ v h' tk, (intItems xs)[argBest (fun i j => decide (numAt xs i < numAt xs j)) (xs.size - 1)]? = some v → (∀ b o, s.heap.get? b = some o → h'.get? b = some o) → Q v { s with heap := h', toks := tk }) :
    wpAny (model prog w) A (call (.builtin "min") [.ref l]) Q E s := by
  refine call_min_walk (iter_intTup hl fun s₂ e st hfp hlI => ?_)
  subst e
  refine ⟨_, _, _, _, _, _, _, rfl, Walks.tuple (A := A.in1) hh _ l hlI (intItems xs), st, hfp, by simpa [intItems] using hne, CmpOf.ints_lt (numAt xs) (fun _ _ => intItems_at), fun v h' tk hP hk => ?_⟩
  exact h v h' tk (by simpa [intItems] using hP) (old_keptT hk)
end
section
variable {prog : Program} {w : World} {A : Around} {E : Value → Shared → Prop} {s : Shared} {l : Addr} {its : List Value} {ns : List Int} {Q : Value → Shared → Prop}
theorem max_rawT (hh : A.handled = none) (hl : s.heap.IsTuple l its.toArray) (hi : IntsAre its ns) (hne : 0 < ns.length)
    (h : ∀ h' tk M t', (∀ b o, s.heap.get? b = some o → h'.get? b = some o) → M ∈ ns → (∀ a, a ∈ ns → a ≤ M) → Q (.int M t') { s with heap := h', toks := tk }) : wpAny (model prog w) A (call (.builtin "max") [.ref l]) Q E s := by
  obtain ⟨xs, e⟩ := hi.allInts.items
  have hn : numsOf (intItems xs).toList = ns := by rw [← e]; exact hi.numsOf
  rw [nums_intItems] at hn
  subst hn
  rw [e] at hl
  have hsz : 0 < xs.size := by simpa using hne
  refine max_intTup hh hl hsz fun v h' tk hv hk => ?_
  obtain ⟨t, rfl⟩ := intItems_at hv
  obtain ⟨h1, h2⟩ := argBest_gt (numAt xs) (xs.size - 1)
  refine h h' tk _ t hk ?_ fun a ha => ?_
  · rw [numAt_eq]; exact PySem.getD_mem (by rw [List.length_map, Array.length_toList]; omega)
  · obtain ⟨j, hj, rfl⟩ := mem_getD ha
    rw [List.length_map, Array.length_toList] at hj
    rw [← numAt_eq]; exact h2 j (by omega)
theorem min_rawT (hh : A.handled = none) (hl : s.heap.IsTuple l its.toArray) (hi : IntsAre its ns) (hne : 0 < ns.length)
    (h : ∀ h' tk M t', (∀ b o, s.heap.get? b = some o → h'.get? b = some o) → M ∈ ns → (∀ a, a ∈ ns → M ≤ a) → Q (.int M t') { s with heap := h', toks := tk }) : wpAny (model prog w) A (call (.builtin "min") [.ref l]) Q E s := by
  obtain ⟨xs, e⟩ := hi.allInts.items
  have hn : numsOf (intItems xs).toList = ns := by rw [← e]; exact hi.numsOf
  rw [nums_intItems] at hn
  subst hn
  rw [e] at hl
  have hsz : 0 < xs.size := by simpa using hne
  refine min_intTup hh hl hsz fun v h' tk hv hk => ?_
  obtain ⟨t, rfl⟩ := intItems_at hv
  obtain ⟨h1, h2⟩ := argBest_lt (numAt xs) (xs.size - 1)
  refine h h' tk _ t hk ?_ fun a ha => ?_
  · rw [numAt_eq]; exact PySem.getD_mem (by rw [List.length_map, Array.length_toList]; omega)
  · obtain ⟨j, hj, rfl⟩ := mem_getD ha
    rw [List.length_map, Array.length_toList] at hj
    rw [← numAt_eq]; exact h2 j (by omega)
end
def rMaxT (K : PySem.W.Frag) : List V → Hp → VK → Prop := fun vs H Q => ∃ (a : Addr) (ns : List Int), vs = [V.ref a] ∧ SqT K H a (ns.map V.int) ∧ 0 < ns.length ∧ ∀ m, m ∈ ns → (∀ y, y ∈ ns → y ≤ m) → Q (.int m) H
def rMinT (K : PySem.W.Frag) : List V → Hp → VK → Prop := fun vs H Q => ∃ (a : Addr) (ns : List Int), vs = [V.ref a] ∧ SqT K H a (ns.map V.int) ∧ 0 < ns.length ∧ ∀ m, m ∈ ns → (∀ y, y ∈ ns → m ≤ y) → Q (.int m) H
theorem cr_maxT {X : Cx} (hc : X.calm = true) : CallR X (.builtin "max") (rMaxT X.K) := by
  intro pins s σ H vs us Q I r h
  obtain ⟨a, ns, rfl, hs, hne, q⟩ := h
  obtain ⟨its, rv, hl, _⟩ := I.tuple hs
  rw [Vals.ref1 r]
  exact max_rawT (I.ok.hd hc) hl rv.ints hne fun h' tk m t' hk h1 h2 => ⟨.int _, H, I.kept hk, ⟨_, rfl⟩, q m h1 h2⟩
theorem cr_minT {X : Cx} (hc : X.calm = true) : CallR X (.builtin "min") (rMinT X.K) := by
  intro pins s σ H vs us Q I r h
  obtain ⟨a, ns, rfl, hs, hne, q⟩ := h
  obtain ⟨its, rv, hl, _⟩ := I.tuple hs
  rw [Vals.ref1 r]
  exact min_rawT (I.ok.hd hc) hl rv.ints hne fun h' tk m t' hk h1 h2 => ⟨.int _, H, I.kept hk, ⟨_, rfl⟩, q m h1 h2⟩
/-- max of two ints, of a list of ints -/
def cMax (xs : List D) (S : Store) : R D := match xs with
  | [.int i, .int j] => .ok (.int (if j > i then j else i)) S
  | [.tup ds] => match intsOf ds with
    | some (m :: r) => .ok (.int (lmax m r)) S
    | _ => .bad
  | [.ref n] => match S[n]? with
    | some (.lst ds) => match intsOf ds with
      | some (m :: r) => .ok (.int (lmax m r)) S
      | _ => .bad
    | _ => .bad
  | _ => .bad
def cMin (xs : List D) (S : Store) : R D := match xs with
  | [.int i, .int j] => .ok (.int (if j < i then j else i)) S
  | [.tup ds] => match intsOf ds with
    | some (m :: r) => .ok (.int (lmin m r)) S
    | _ => .bad
  | [.ref n] => match S[n]? with
    | some (.lst ds) => match intsOf ds with
      | some (m :: r) => .ok (.int (lmin m r)) S
      | _ => .bad
    | _ => .bad
  | _ => .bad
theorem ref_lst {ρ : Nat → Addr} {S : Store} {H : Hp} {n : Nat} {v : V} {ds : List D} (rel : Rel K mg ρ S H) (r : RD K mg ρ S.length H (.ref n) v) (h : S[n]? = some (.lst ds)) : v = .ref (ρ n) ∧ ∃ vs, H (ρ n) = some (.lst vs) ∧ RDs K mg ρ S.length H ds vs := by
  cases r with
  | ref _ e =>
    have o := rel.obj _ _ h
    cases o with
    | lst a1 a2 => exact ⟨by rw [e], _, a1, a2⟩
theorem p_max : PrC K mg (fun xs H Q => (∃ i j, xs = [.int i, .int j] ∧ Q (.int (if j > i then j else i)) H) ∨ rMax K xs H Q ∨ rMaxT K xs H Q) cMax := by
  intro ρ S H xs vs Q E rel rx f
  unfold cMax at f
  split at f
  · cases rx with
    | cons r t =>
      cases t with
      | cons r' t' =>
        cases t'; cases r; cases r'
        exact .inl ⟨_, _, rfl, (Aft.ok f rel) _ (.int _)⟩
  · split at f
    · rename_i _ ds _ m l hl
      cases rx with
      | cons r t =>
        cases t
        cases r with
        | @tup _ a ws sq h2 =>
          obtain rfl := intsOf_ok hl h2
          refine .inr (.inr ⟨_, m :: l, rfl, sq, Nat.succ_pos _, fun z hz hm => ?_⟩)
          obtain ⟨g1, g2, g3⟩ := lmax_ge m l
          have e : z = lmax m l := by
            have a1 : lmax m l ≤ z := hm _ (by rcases g3 with g3 | g3; rw [g3]; exact List.mem_cons_self; exact List.mem_cons_of_mem _ g3)
            have a2 : z ≤ lmax m l := by
              rcases List.mem_cons.mp hz with rfl | hz
              · exact g1
              · exact g2 z hz
            omega
          rw [e]
          exact (Aft.ok f rel) _ (.int _)
    · exact f.elim
  · split at f
    · split at f
      · rename_i n _ ds hs _ m l hl
        cases rx with
        | cons r t =>
          cases t
          obtain ⟨e, ws, h1, h2⟩ := ref_lst rel r hs
          subst e
          obtain rfl := intsOf_ok hl h2
          refine .inr (.inl ⟨_, m :: l, rfl, .inl (.inl h1), Nat.succ_pos _, fun z hz hm => ?_⟩)
          obtain ⟨g1, g2, g3⟩ := lmax_ge m l
          have e : z = lmax m l := by
            have a1 : lmax m l ≤ z := hm _ (by rcases g3 with g3 | g3; rw [g3]; exact List.mem_cons_self; exact List.mem_cons_of_mem _ g3)
            have a2 : z ≤ lmax m l := by
              rcases List.mem_cons.mp hz with rfl | hz
              · exact g1
              · exact g2 z hz
            omega
          rw [e]
          exact (Aft.ok f rel) _ (.int _)
      · exact f.elim
    · exact f.elim
  · exact f.elim
theorem p_min : PrC K mg (fun xs H Q => (∃ i j, xs = [.int i, .int j] ∧ Q (.int (if j < i then j else i)) H) ∨ rMin K xs H Q ∨ rMinT K xs H Q) cMin := by
  intro ρ S H xs vs Q E rel rx f
  unfold cMin at f
  split at f
  · cases rx with
    | cons r t =>
      cases t with
      | cons r' t' =>
        cases t'; cases r; cases r'
        exact .inl ⟨_, _, rfl, (Aft.ok f rel) _ (.int _)⟩
  · split at f
    · rename_i _ ds _ m l hl
      cases rx with
      | cons r t =>
        cases t
        cases r with
        | @tup _ a ws sq h2 =>
          obtain rfl := intsOf_ok hl h2
          refine .inr (.inr ⟨_, m :: l, rfl, sq, Nat.succ_pos _, fun z hz hm => ?_⟩)
          obtain ⟨g1, g2, g3⟩ := lmin_le m l
          have e : z = lmin m l := by
            have a1 : z ≤ lmin m l := hm _ (by rcases g3 with g3 | g3; rw [g3]; exact List.mem_cons_self; exact List.mem_cons_of_mem _ g3)
            have a2 : lmin m l ≤ z := by
              rcases List.mem_cons.mp hz with rfl | hz
              · exact g1
              · exact g2 z hz
            omega
          rw [e]
          exact (Aft.ok f rel) _ (.int _)
    · exact f.elim
  · split at f
    · split at f
      · rename_i n _ ds hs _ m l hl
        cases rx with
        | cons r t =>
          cases t
          obtain ⟨e, ws, h1, h2⟩ := ref_lst rel r hs
          subst e
          obtain rfl := intsOf_ok hl h2
          refine .inr (.inl ⟨_, m :: l, rfl, .inl (.inl h1), Nat.succ_pos _, fun z hz hm => ?_⟩)
          obtain ⟨g1, g2, g3⟩ := lmin_le m l
          have e : z = lmin m l := by
            have a1 : z ≤ lmin m l := hm _ (by rcases g3 with g3 | g3; rw [g3]; exact List.mem_cons_self; exact List.mem_cons_of_mem _ g3)
            have a2 : lmin m l ≤ z := by
              rcases List.mem_cons.mp hz with rfl | hz
              · exact g1
              · exact g2 z hz
            omega
          rw [e]
          exact (Aft.ok f rel) _ (.int _)
      · exact f.elim
    · exact f.elim
  · exact f.elim
def cSum (xs : List D) (S : Store) : R D := match xs with
  | [.ref n] => match S[n]? with
    | some (.lst ds) => match intsOf ds with
      | some l => .ok (.int l.sum) S
      | _ => .bad
    | _ => .bad
  | _ => .bad
theorem p_sum : PrC K mg (rSum K) cSum := by
  intro ρ S H xs vs Q E rel rx f
  unfold cSum at f
  split at f
  · split at f
    · split at f
      · rename_i n _ ds hs _ l hl
        cases rx with
        | cons r t =>
          cases t
          obtain ⟨e, ws, h1, h2⟩ := ref_lst rel r hs
          subst e
          obtain rfl := intsOf_ok hl h2
          exact ⟨_, l, rfl, .inl (.inl h1), (Aft.ok f rel) _ (.int _)⟩
      · exact f.elim
    · exact f.elim
  · exact f.elim
def blsOf : List D → Option (List Bool)
  | [] => some []
  | .bl i :: r => (blsOf r).map (i :: ·)
  | _ :: _ => none
theorem blsOf_ok {ρ : Nat → Addr} {N : Nat} {H : Hp} : ∀ {ds : List D} {ns : List Bool} {vs : List V}, blsOf ds = some ns → RDs K mg ρ N H ds vs → vs = ns.map V.bl
  | [], _, _, h, .nil => by cases h; rfl
  | .bl i :: r, _, _, h, .cons (.bl _) t => by
    unfold blsOf at h
    cases e : blsOf r with
    | none => rw [e] at h; cases h
    | some ms =>
      rw [e] at h
      cases h
      rw [blsOf_ok e t]
      rfl
def cAll (xs : List D) (S : Store) : R D := match xs with
  | [.ref n] => match S[n]? with
    | some (.lst ds) => match blsOf ds with
      | some l => .ok (.bl (l.all id)) S
      | _ => .bad
    | _ => .bad
  | _ => .bad
def cAny (xs : List D) (S : Store) : R D := match xs with
  | [.ref n] => match S[n]? with
    | some (.lst ds) => match blsOf ds with
      | some l => .ok (.bl (l.any id)) S
      | _ => .bad
    | _ => .bad
  | _ => .bad
theorem p_all : PrC K mg (rAll K) cAll := by
  intro ρ S H xs vs Q E rel rx f
  unfold cAll at f
  split at f
  · split at f
    · split at f
      · rename_i n _ ds hs _ l hl
        cases rx with
        | cons r t =>
          cases t
          obtain ⟨e, ws, h1, h2⟩ := ref_lst rel r hs
          subst e
          obtain rfl := blsOf_ok hl h2
          exact ⟨_, l, rfl, .inl (.inl h1), (Aft.ok f rel) _ (.bl _)⟩
      · exact f.elim
    · exact f.elim
  · exact f.elim
theorem p_any : PrC K mg (rAny K) cAny := by
  intro ρ S H xs vs Q E rel rx f
  unfold cAny at f
  split at f
  · split at f
    · split at f
      · rename_i n _ ds hs _ l hl
        cases rx with
        | cons r t =>
          cases t
          obtain ⟨e, ws, h1, h2⟩ := ref_lst rel r hs
          subst e
          obtain rfl := blsOf_ok hl h2
          exact ⟨_, l, rfl, .inl (.inl h1), (Aft.ok f rel) _ (.bl _)⟩
      · exact f.elim
    · exact f.elim
  · exact f.elim
/-- list(x), tuple(x) of a list or a tuple -/
def cList (xs : List D) (S : Store) : R D := match xs with
  | [.tup ds] => .ok (.ref S.length) (S ++ [.lst ds])
  | [.ref n] => match S[n]? with
    | some (.lst ds) => .ok (.ref S.length) (S ++ [.lst ds])
    | some (.scr ds) => .ok (.ref S.length) (S ++ [.lst ds])
    | some (.dic kds) => .ok (.ref S.length) (S ++ [.lst (kds.map (·.1))])
    | _ => .bad
  | _ => .bad
theorem RKV.keys {ρ : Nat → Addr} {N : Nat} {H : Hp} : ∀ {kds : List (D × D)} {kvs : List (Key × V)}, RKV K mg ρ N H kds kvs → RDs K mg ρ N H (kds.map (·.1)) (kvs.map fun kv => kV kv.1)
  | _, _, .nil => .nil
  | _, _, .int _ t => .cons (.int _) (RKV.keys t)
  | _, _, .str _ t => .cons (.str _) (RKV.keys t)
theorem p_list : PrC K mg (fun xs H Q => (∃ p ys, xs = [.ref p] ∧ (SqL K H p ys ∨ SqT K H p ys) ∧ ∀ l, H l = none → Q (.ref l) (upd H l (.lst ys))) ∨ rListD xs H Q) cList := by
  intro ρ S H xs vs Q E rel rx f
  unfold cList at f
  split at f
  · cases rx with
    | cons r t =>
      cases t
      cases r with
      | tup q t => exact .inl ⟨_, _, rfl, .inr q, fun l hl => aft_lst rel t f hl⟩
  · cases rx with
    | cons r t =>
      cases t
      cases r with
      | ref h e =>
        split at f
        · have o := rel.obj _ _ ‹_›
          cases o with
          | lst a1 a2 => exact .inl ⟨_, _, rfl, .inl (.inl (.inl (by rw [e]; exact a1))), fun l hl => aft_lst rel a2 f hl⟩
        · have o := rel.obj _ _ ‹_›
          cases o with
          | scr a1 a2 => exact .inl ⟨_, _, rfl, .inl (by rw [e]; exact scr_sq a1), fun l hl => aft_lst rel a2 f hl⟩
        · have o := rel.obj _ _ ‹_›
          cases o with
          | dK a1 a2 => exact .inr ⟨_, _, rfl, by rw [e]; exact a1, fun l hl => aft_lst rel a2.keys f hl⟩
        · exact f.elim
  · exact f.elim
def cTuple (xs : List D) (S : Store) : R D := match xs with
  | [.tup ds] => .ok (.tup ds) S
  | [.ref n] => match S[n]? with
    | some (.lst ds) => .ok (.tup ds) S
    | _ => .bad
  | _ => .bad
theorem p_tuple : PrC K mg (fun xs H Q => ∃ p ys, xs = [.ref p] ∧ ((SqL K H p ys ∧ ∀ l, H l = none → Q (.ref l) (upd H l (.tup ys))) ∨ (SqT K H p ys ∧ Q (.ref p) H))) cTuple := by
  intro ρ S H xs vs Q E rel rx f
  unfold cTuple at f
  split at f
  · cases rx with
    | cons r t =>
      cases t
      cases r with
      | tup q t => exact ⟨_, _, rfl, .inr ⟨q, (Aft.ok f rel) _ (.tup q t)⟩⟩
  · cases rx with
    | cons r t =>
      cases t
      split at f
      · obtain ⟨e, ws, h1, h2⟩ := ref_lst rel r ‹_›
        subst e
        exact ⟨_, _, rfl, .inl ⟨.inl (.inl h1), fun l hl => aft_tup rel h2 f hl⟩⟩
      · exact f.elim
  · exact f.elim

/-! ### isinstance -/
def tyOf (x : D) (S : Store) : Option String := match x with
  | .non => some "NoneType"
  | .bl _ => some "bool"
  | .int _ => some "int"
  | .str _ => some "str"
  | .tup _ => some "tuple"
  | .ref n => match S[n]? with
    | some (.lst _) => some "list"
    | some (.dic _) => some "dict"
    | _ => none
  | _ => none
def tyIs (a b : String) : Bool := a == b || (a == "bool" && b == "int")
def tyNames : List String := ["NoneType", "bool", "int", "str", "tuple", "list", "dict"]
def tyAsked : List String := ["bool", "int", "str", "tuple", "list", "dict"]
def cIsi (xs : List D) (S : Store) : R D := match xs with
  | [x, .ty b] => match tyOf x S with
    | some a => if tyAsked.contains b then .ok (.bl (tyIs a b)) S else .bad
    | none => .bad
  | _ => .bad
theorem kit_all : ∀ a ∈ tyNames, ∀ b ∈ tyAsked, kitB a b = some (tyIs a b) := by decide +kernel
theorem tyOf_ok {ρ : Nat → Addr} {S : Store} {H : Hp} {x : D} {v : V} {a : String} (rel : Rel K mg ρ S H) (r : RD K mg ρ S.length H x v) (h : tyOf x S = some a) : TyX K H v (.type a) ∧ a ∈ tyNames := by
  cases r with
  | non => cases h; exact ⟨.base .non, by decide⟩
  | bl b => cases h; exact ⟨.base (.bl b), by decide⟩
  | int i => cases h; exact ⟨.base (.int i), by decide⟩
  | str x => cases h; exact ⟨.base (.str x), by decide⟩
  | tup q t =>
    cases h
    refine ⟨?_, by decide⟩
    rcases q with (q | ⟨o, q⟩) | ⟨o, its, n, q1, q2, _⟩
    · exact .base (.tup q)
    · exact .fTuple q
    · exact .kTuple q1 q2
  | @ref n p hn e =>
    cases hs : S[n]? with
    | none => simp [tyOf, hs] at h
    | some o =>
      have ro := rel.obj _ _ hs
      cases ro with
      | lst h1 h2 =>
        simp only [tyOf, hs, Option.some.injEq] at h
        subst h
        exact ⟨.base (.lst (by rw [e]; exact h1)), by decide⟩
      | scr h1 h2 => simp [tyOf, hs] at h
      | dK h1 h2 =>
        simp only [tyOf, hs, Option.some.injEq] at h
        subst h
        exact ⟨.base (.dK (by rw [e]; exact h1)), by decide⟩
  | gl q => cases h
  | ty n => cases h
theorem p_isi : PrC K mg (rIsi K) cIsi := by
  intro ρ S H xs vs Q E rel rx f
  unfold cIsi at f
  split at f
  · rename_i x b
    split at f
    · rename_i a ha
      split at f
      · rename_i hb
        cases rx with
        | cons r t =>
          cases t with
          | cons r' t' =>
            cases t'
            cases r'
            obtain ⟨h1, h2⟩ := tyOf_ok rel r ha
            exact ⟨_, _, _, _, _, rfl, .ty b, h1, kit_ty (kit_all a h2 b (by simpa using hb)), (Aft.ok f rel) _ (.bl _)⟩
      · exact f.elim
    · exact f.elim
  · exact f.elim
end
section
variable {X : Cx}
theorem o_len (hc : X.calm = true) : CallR X (.builtin "len") (fun xs H Q => (∃ p ys, xs = [.ref p] ∧ (SqL X.K H p ys ∨ SqT X.K H p ys) ∧ Q (.int ys.length) H) ∨ (∃ a kvs, xs = [V.ref a] ∧ H a = some (.dK kvs) ∧ Q (.int kvs.length) H)) := fun pins s σ H xs us Q I r h => by
  rcases h with h | h
  · exact call_len_seq pins s σ H xs us Q I r h
  · exact call_lenD pins s σ H xs us Q I r h
theorem o_max (hc : X.calm = true) : CallR X (.builtin "max") (fun xs H Q => (∃ i j, xs = [.int i, .int j] ∧ Q (.int (if j > i then j else i)) H) ∨ rMax X.K xs H Q ∨ rMaxT X.K xs H Q) := fun pins s σ H xs us Q I r h => by
  rcases h with h | h | h
  · exact call_max2 hc pins s σ H xs us Q I r h
  · exact cr_max hc pins s σ H xs us Q I r h
  · exact cr_maxT hc pins s σ H xs us Q I r h
theorem o_min (hc : X.calm = true) : CallR X (.builtin "min") (fun xs H Q => (∃ i j, xs = [.int i, .int j] ∧ Q (.int (if j < i then j else i)) H) ∨ rMin X.K xs H Q ∨ rMinT X.K xs H Q) := fun pins s σ H xs us Q I r h => by
  rcases h with h | h | h
  · exact call_min2 hc pins s σ H xs us Q I r h
  · exact cr_min hc pins s σ H xs us Q I r h
  · exact cr_minT hc pins s σ H xs us Q I r h
theorem o_list (hc : X.calm = true) : CallR X (.type "list") (fun xs H Q => (∃ p ys, xs = [.ref p] ∧ (SqL X.K H p ys ∨ SqT X.K H p ys) ∧ ∀ l, H l = none → Q (.ref l) (upd H l (.lst ys))) ∨ rListD xs H Q) := fun pins s σ H xs us Q I r h => by
  rcases h with h | h
  · exact call_list_of pins s σ H xs us Q I r h
  · exact call_list_dK hc pins s σ H xs us Q I r h
end
end EV

set_option maxRecDepth 100000
set_option autoImplicit false
/-! EV: slices, methods of lists, statements. -/
namespace EV
open PySem PySem.Spec PyProof.Rows L2

/-! ### slices -/
section
variable {X : Cx} {W : WX} {a : Expr} {fa : Ev} {lo hi : Option Expr} {pos p2 : Pos}
abbrev Eo := EnvP → Store → R (Option Int)
def LO (K : PySem.W.Frag) (mg : Str → Option Value) (W : WX) (f : Eo) : TO := fun σ H Q => ∃ ρ S env, At K mg ρ S H env σ ∧ Aft K mg ρ S.length H (f env S) (fun o _ _ H' => Q o H') (WE W σ)
def fNo : Eo := fun _ S => .ok none S
def fSo (f : Ev) : Eo := fun env S => (f env S).bind fun x S1 => match x with
  | .int i => .ok (some i) S1
  | _ => .bad
theorem _root_.L2.PO.imp {X : Cx} {e : Option Expr} {t t' : TO} (h : PO X e t) (i : ∀ σ H Q, t' σ H Q → t σ H Q) : PO X e t' := ⟨fun pins s σ H Q I q => h.run pins s σ H Q I (i σ H Q q)⟩
theorem qo_none : PO X none (LO X.K X.mg W fNo) := po_none.imp fun σ H Q h => by
  obtain ⟨ρ, S, env, a, q⟩ := h
  exact Aft.ok q a.rel
theorem qo_some {e : Expr} {f : Ev} (h : QE X W e f) : PO X (some e) (LO X.K X.mg W (fSo f)) := (po_some h).imp fun σ H Q h => by
  obtain ⟨ρ, S, env, a, q⟩ := h
  refine ⟨ρ, S, env, a, (Aft.bind q).mono fun x S1 ρ1 H1 e1 r1 f1 => fun v hv => ?_⟩
  cases hv with
  | int i => exact ⟨i, rfl, Aft.ok f1 r1⟩
  | _ => exact f1.elim
def cutD (xs : List D) (lo hi : Option Int) : List D := (xs.drop (HT.sIx xs.length 0 lo)).take (HT.sIx xs.length xs.length hi - HT.sIx xs.length 0 lo)
def dSl (x : D) (lo hi : Option Int) (S : Store) : R D := match x with
  | .tup xs => if HT.sIx xs.length 0 lo = 0 ∧ HT.sIx xs.length xs.length hi = xs.length then .bad else .ok (.tup (cutD xs lo hi)) S
  | .ref n => match S[n]? with
    | some (.lst xs) => .ok (.ref S.length) (S ++ [.lst (cutD xs lo hi)])
    | _ => .bad
  | _ => .bad
def fSl (fa : Ev) (fl fh : Eo) : Ev := fun env S => (fa env S).bind fun x S1 => (fl env S1).bind fun l S2 => (fh env S2).bind fun h S3 => dSl x l h S3
theorem RDs.cut {K : PySem.W.Frag} {mg : Str → Option Value} {ρ : Nat → Addr} {N : Nat} {H : Hp} {ds : List D} {vs : List V} (r : RDs K mg ρ N H ds vs) (lo hi : Option Int) : RDs K mg ρ N H (cutD ds lo hi) (cutV vs lo hi) := by
  unfold cutD cutV
  rw [← r.length]
  exact (r.drop _).take _
theorem q_slice {fl fh : Eo} (ha : QE X W a fa) (hl : PO X lo (LO X.K X.mg W fl)) (hh : PO X hi (LO X.K X.mg W fh)) : QE X W (.Subscript a (.Slice lo hi none p2) pos) (fSl fa fl fh) := by
  refine (pe_slice (sl_list.or sl_tup) ha hl hh).imp fun σ H Q h => ?_
  obtain ⟨ρ, S, env, a, q⟩ := h
  refine ⟨ρ, S, env, a, (Aft.bind q).mono fun x S1 ρ1 H1 e1 r1 f1 => fun v hv => ⟨ρ1, S1, env, a.ext e1 r1, (Aft.bind f1).mono fun l S2 ρ2 H2 e2 r2 f2 => ⟨ρ2, S2, env, (a.ext e1 r1).ext e2 r2, (Aft.bind f2).mono fun h S3 ρ3 H3 e3 r3 f3 => ?_⟩⟩⟩
  have hv3 := hv.ext (e2.trans e3)
  unfold dSl at f3
  split at f3
  · cases hv3 with
    | tup q t =>
      split at f3
      · exact f3.elim
      · rename_i hh
        refine .inr ⟨_, _, rfl, q, by rw [← t.length]; exact hh, fun p hp => aft_tup r3 (t.cut l h) f3 hp⟩
  · split at f3
    · obtain ⟨e, ws, h1, h2⟩ := ref_lst r3 hv3 ‹_›
      subst e
      exact .inl ⟨_, _, rfl, .inl (.inl h1), fun p hp => aft_lst r3 (h2.cut l h) f3 hp⟩
    · exact f3.elim
  · exact f3.elim
end

/-! ### methods of lists -/
section
variable {X : Cx} {W : WX} {o e : Expr} {es : List Expr} {fo : Ev} {fs : EnvP → Store → R (List D)} {apos cpos : Pos} {name : Str} {id : String}
def fMeth (g : D → List D → Store → R D) (fo : Ev) (fs : EnvP → Store → R (List D)) : Ev := fun env S => (fo env S).bind fun x S1 => (fs env S1).bind fun xs S2 => g x xs S2
/-- the object at hand is a list -/
def isL (g : D → List D → Store → R D) : Prop := ∀ x xs S, g x xs S ≠ .bad → ∃ n ds, x = .ref n ∧ S[n]? = some (.lst ds)
def PrM (K : PySem.W.Frag) (mg : Str → Option Value) (r : V → List V → Hp → VK → Prop) (g : D → List D → Store → R D) : Prop :=
  ∀ (ρ : Nat → Addr) (S : Store) (H : Hp) (x : D) (v : V) (xs : List D) (vs : List V) (Q : VK) (E : XK), Rel K mg ρ S H → RD K mg ρ S.length H x v → RDs K mg ρ S.length H xs vs → Aft K mg ρ S.length H (g x xs S) (PV K mg Q) E → r v vs H Q
/-- it is a list ahead of the arguments, too -/
def fMethL (g : D → List D → Store → R D) (fo : Ev) (fs : EnvP → Store → R (List D)) : Ev := fun env S => (fo env S).bind fun x S1 => match x with
  | .ref n => match S1[n]? with
    | some (.lst _) => (fs env S1).bind fun xs S2 => g x xs S2
    | _ => .bad
  | _ => .bad
theorem q_methL {r : V → List V → Hp → VK → Prop} {g : D → List D → Store → R D} (slot : Slot "list" name id) (hty : typeOf (.builtin id) = pure (.type "method_descriptor")) (hm : MtR X id r) (hg : PrM X.K X.mg r g) (ho : QE X W o fo) (ha : QA X W (e :: es) fs)
    (h : PE X (.Call (.Attribute o name apos) (e :: es) [] cpos) (tBM X.K "list" r (LE X.K X.mg W fo) (LA X.K X.mg W fs))) : QE X W (.Call (.Attribute o name apos) (e :: es) [] cpos) (fMethL g fo fs) := by
  refine h.imp fun σ H Q h => ?_
  obtain ⟨ρ, S, env, a, q⟩ := h
  refine ⟨ρ, S, env, a, (Aft.bind q).mono fun x S1 ρ1 H1 e1 r1 f1 => fun v hv => ?_⟩
  split at f1
  · split at f1
    · rename_i n _ ds hs
      obtain ⟨e, ws, h1, h2⟩ := ref_lst r1 hv hs
      subst e
      refine ⟨.inl ⟨rfl, _, .inl (.inl h1)⟩, ρ1, S1, env, a.ext e1 r1, (Aft.bind f1).mono fun xs S2 ρ2 H2 e2 r2 f2 => fun vs hvs => ?_⟩
      exact hg ρ2 S2 H2 _ _ xs vs Q _ r2 (hv.ext e2) hvs f2
    · exact f1.elim
  · exact f1.elim
theorem q_methL0 {r : V → List V → Hp → VK → Prop} {g : D → List D → Store → R D} (hg : PrM X.K X.mg r g)
    (h : PE X (.Call (.Attribute o name apos) [] [] cpos) (tBM0 X.K "list" r (LE X.K X.mg W fo))) : QE X W (.Call (.Attribute o name apos) [] [] cpos) (fMethL g fo fNil) := by
  refine h.imp fun σ H Q h => ?_
  obtain ⟨ρ, S, env, a, q⟩ := h
  refine ⟨ρ, S, env, a, (Aft.bind q).mono fun x S1 ρ1 H1 e1 r1 f1 => fun v hv => ?_⟩
  split at f1
  · split at f1
    · rename_i n _ ds hs
      obtain ⟨e, ws, h1, h2⟩ := ref_lst r1 hv hs
      subst e
      exact ⟨.inl ⟨rfl, _, .inl (.inl h1)⟩, hg ρ1 S1 H1 _ _ [] [] Q _ r1 hv .nil f1⟩
    · exact f1.elim
  · exact f1.elim
end
section
variable {K : PySem.W.Frag} {mg : Str → Option Value}
def LIM : Nat := 10000000
theorem lim_line {n : Nat} (h : n < LIM) : n < sizeLine := Nat.lt_of_lt_of_le h (by decide)
def mAppend (x : D) (xs : List D) (S : Store) : R D := match x, xs with
  | .ref n, [d] => match S[n]? with
    | some (.lst ds) => if ds.length < LIM then .ok .non (S.set n (.lst (ds ++ [d]))) else .bad
    | _ => .bad
  | _, _ => .bad
def mExtend (x : D) (xs : List D) (S : Store) : R D := match x, xs with
  | .ref n, [.ref m] => match S[n]?, S[m]? with
    | some (.lst ds), some (.lst es) => if ds.length + es.length < LIM then .ok .non (S.set n (.lst (ds ++ es))) else .bad
    | _, _ => .bad
  | _, _ => .bad
def mPop (x : D) (xs : List D) (S : Store) : R D := match x, xs with
  | .ref n, [] => match S[n]? with
    | some (.lst ds) => match ds[ds.length - 1]? with
      | some d => .ok d (S.set n (.lst ds.dropLast))
      | none => .bad
    | _ => .bad
  | _, _ => .bad
def mPopAt (x : D) (xs : List D) (S : Store) : R D := match x, xs with
  | .ref n, [.int i] => match S[n]? with
    | some (.lst ds) => if -9223372036854775808 ≤ i ∧ i < 9223372036854775808 then match ixN ds.length i with
      | some k => match ds[k]? with
        | some d => .ok d (S.set n (.lst (ds.eraseIdx k)))
        | none => .bad
      | none => .bad else .bad
    | _ => .bad
  | _, _ => .bad
/-- a written list, and what is handed back -/
theorem aft_write {ρ : Nat → Addr} {S : Store} {H : Hp} {n : Nat} {ds es : List D} {ws us : List V} {d : D} {v : V} {Q : VK} {E : XK} (rel : Rel K mg ρ S H) (hs : S[n]? = some (.lst ds)) (r : RDs K mg ρ S.length H es us) (rv : RD K mg ρ S.length H d v)
    (f : Aft K mg ρ S.length H (.ok d (S.set n (.lst es))) (PV K mg Q) E) : Q v (upd H (ρ n) (.lst us)) := by
  have e := Ext.write (ho := .lst us) rel hs rfl
  exact f ρ _ (by rw [List.length_set]; exact e) (rel.write hs rfl rfl (.lst upd_same (r.ext e))) _ (by rw [List.length_set]; exact rv.ext e)
theorem p_append : PrM K mg rAppend mAppend := by
  intro ρ S H x v xs vs Q E rel rx rs f
  unfold mAppend at f
  split at f
  · split at f
    · rename_i n d _ ds hs
      obtain ⟨e, ws, h1, h2⟩ := ref_lst rel rx hs
      subst e
      cases rs with
      | cons r t =>
        cases t
        split at f
        · rename_i hh
          exact ⟨_, _, _, rfl, rfl, h1, lim_line (by rw [← h2.length]; exact hh), aft_write (ws := ws) rel hs (h2.append (.cons r .nil)) .non f⟩
        · exact f.elim
    · exact f.elim
  · exact f.elim
theorem p_extend : PrM K mg rExtend mExtend := by
  intro ρ S H x v xs vs Q E rel rx rs f
  unfold mExtend at f
  split at f
  · split at f
    · rename_i n m _ _ ds es hn hm
      obtain ⟨e, ws, h1, h2⟩ := ref_lst rel rx hn
      subst e
      cases rs with
      | cons r t =>
        cases t
        obtain ⟨e, us, g1, g2⟩ := ref_lst rel r hm
        subst e
        split at f
        · rename_i hh
          exact ⟨_, _, _, _, rfl, rfl, h1, g1, Nat.le_of_lt (lim_line (by rw [← h2.length, ← g2.length]; exact hh)), aft_write (ws := ws) rel hn (h2.append g2) .non f⟩
        · exact f.elim
    · exact f.elim
  · exact f.elim
theorem RDs.dropLast {ρ : Nat → Addr} {N : Nat} {H : Hp} {ds : List D} {vs : List V} (r : RDs K mg ρ N H ds vs) : RDs K mg ρ N H ds.dropLast vs.dropLast := by
  rw [List.dropLast_eq_take, List.dropLast_eq_take, ← r.length]
  exact r.take _
theorem p_pop : PrM K mg rPop mPop := by
  intro ρ S H x v xs vs Q E rel rx rs f
  unfold mPop at f
  split at f
  · split at f
    · rename_i n _ ds hs
      obtain ⟨e, ws, h1, h2⟩ := ref_lst rel rx hs
      subst e
      cases rs
      split at f
      · rename_i d hd
        obtain ⟨y, a1, a2⟩ := h2.get hd
        refine ⟨_, _, y, rfl, rfl, h1, by rw [← h2.length]; exact a1, aft_write (ws := ws) rel hs h2.dropLast a2 f⟩
      · exact f.elim
    · exact f.elim
  · exact f.elim
theorem p_popAt : PrM K mg rPopAt mPopAt := by
  intro ρ S H x v xs vs Q E rel rx rs f
  unfold mPopAt at f
  split at f
  · split at f
    · rename_i n _ _ ds hs
      obtain ⟨e, ws, h1, h2⟩ := ref_lst rel rx hs
      subst e
      split at f
      · rename_i hi
        split at f
        · rename_i k hk
          split at f
          · rename_i d hd
            cases rs with
            | cons r t =>
              cases t; cases r
              obtain ⟨y, a1, a2⟩ := h2.get hd
              exact ⟨_, _, _, k, y, rfl, rfl, h1, by omega, by omega, by rw [← h2.length]; exact (ixN_seq hk).1, a1, aft_write (ws := ws) rel hs (h2.erase k) a2 f⟩
          · exact f.elim
        · exact f.elim
      · exact f.elim
    · exact f.elim
  · exact f.elim
end

/-! ### statements -/
/-- how a statement ends -/
inductive T where
  | nx (e : EnvP) (S : Store)
  | rt (d : D) (S : Store)
  | bk (e : EnvP) (S : Store)
  | ct (e : EnvP) (S : Store)
  | exc (c f x : Str) (e : EnvP) (S : Store)
  | bad
abbrev Sv := EnvP → Store → T
def R.andT {α : Type} (r : R α) (env : EnvP) (k : α → Store → T) : T := match r with
  | .ok a S => k a S
  | .exc c f x S => .exc c f x env S
  | .bad => .bad
section
variable (K : PySem.W.Frag) (mg : Str → Option Value)
def AftS (W : WX) (ρ : Nat → Addr) (N : Nat) (H : Hp) (t : T) (E : Ends) : Prop := match t with
  | .nx e S' => ∀ ρ' H' σ', Ext ρ N H ρ' S'.length H' → At K mg ρ' S' H' e σ' → E.nx σ' H'
  | .rt d S' => ∀ ρ' H' v, Ext ρ N H ρ' S'.length H' → Rel K mg ρ' S' H' → RD K mg ρ' S'.length H' d v → E.rt v H'
  | .bk e S' => ∀ ρ' H' σ', Ext ρ N H ρ' S'.length H' → At K mg ρ' S' H' e σ' → E.bk σ' H'
  | .ct e S' => ∀ ρ' H' σ', Ext ρ N H ρ' S'.length H' → At K mg ρ' S' H' e σ' → E.ct σ' H'
  | .exc c f x e S' => ∀ ρ' H' σ' C a, Ext ρ N H ρ' S'.length H' → At K mg ρ' S' H' e σ' → mg c = some (.ref C) → H' a = some (.xd [(f, .str x)]) → W (.ref C) (some a) σ' H'
  | .bad => False
def LS (W : WX) (f : Sv) : TS := fun E σ H => ∃ ρ S env, At K mg ρ S H env σ ∧ AftS K mg W ρ S.length H (f env S) E
end
abbrev QS (X : Cx) (W : WX) (st : Stmt) (f : Sv) : Prop := PS X st (LS X.K X.mg W f)
abbrev QSs (X : Cx) (W : WX) (st : List Stmt) (f : Sv) : Prop := PSs X st (LS X.K X.mg W f)
section
variable {K : PySem.W.Frag} {mg : Str → Option Value} {W : WX} {ρ ρ1 : Nat → Addr} {N N1 : Nat} {H H1 : Hp} {S S1 : Store} {env : EnvP} {σ : L2.St} {t : T} {E : Ends} {α : Type}
theorem AftS.rebase (h : AftS K mg W ρ N H t E) (e : Ext ρ N H ρ1 N1 H1) : AftS K mg W ρ1 N1 H1 t E := by
  cases t with
  | nx e' S' => exact fun ρ' H' σ' x y => h ρ' H' σ' (e.trans x) y
  | rt d S' => exact fun ρ' H' v x y => h ρ' H' v (e.trans x) y
  | bk e' S' => exact fun ρ' H' σ' x y => h ρ' H' σ' (e.trans x) y
  | ct e' S' => exact fun ρ' H' σ' x y => h ρ' H' σ' (e.trans x) y
  | exc c f x e' S' => exact fun ρ' H' σ' C a x y => h ρ' H' σ' C a (e.trans x) y
  | bad => exact h
/-- an expression, then a statement's end -/
theorem AftS.andT {r : R α} {k : α → Store → T} (a : At K mg ρ S H env σ) (h : AftS K mg W ρ S.length H (r.andT env k) E) : Aft K mg ρ S.length H r (fun x S1 ρ1 H1 => AftS K mg W ρ1 S1.length H1 (k x S1) E) (WE W σ) := by
  cases r with
  | ok x S' => exact fun ρ' H' e _ => AftS.rebase h e
  | exc c f x S' => exact fun ρ' H' C p e y m q => h ρ' H' σ C p e (a.ext e y) m q
  | bad => exact h
theorem AftS.mono {E' : Ends} (h : AftS K mg W ρ N H t E) (h1 : ∀ e S' ρ' H' σ', t = .nx e S' → Ext ρ N H ρ' S'.length H' → At K mg ρ' S' H' e σ' → E.nx σ' H' → E'.nx σ' H') (h2 : ∀ v H', E.rt v H' → E'.rt v H')
    (h3 : ∀ e S' ρ' H' σ', t = .bk e S' → Ext ρ N H ρ' S'.length H' → At K mg ρ' S' H' e σ' → E.bk σ' H' → E'.bk σ' H') (h4 : ∀ e S' ρ' H' σ', t = .ct e S' → Ext ρ N H ρ' S'.length H' → At K mg ρ' S' H' e σ' → E.ct σ' H' → E'.ct σ' H') : AftS K mg W ρ N H t E' := by
  cases t with
  | nx e' S' => exact fun ρ' H' σ' x y => h1 _ _ _ _ _ rfl x y (h ρ' H' σ' x y)
  | rt d S' => exact fun ρ' H' v x y z => h2 _ _ (h ρ' H' v x y z)
  | bk e' S' => exact fun ρ' H' σ' x y => h3 _ _ _ _ _ rfl x y (h ρ' H' σ' x y)
  | ct e' S' => exact fun ρ' H' σ' x y => h4 _ _ _ _ _ rfl x y (h ρ' H' σ' x y)
  | exc c f x e' S' => exact h
  | bad => exact h
end
section
variable {X : Cx} {W : WX} {st : Stmt} {rest : List Stmt} {f g : Sv} {e : Expr} {fe : Ev} {pos : Pos}
def sNil : Sv := fun env S => .nx env S
def sSeq (f g : Sv) : Sv := fun env S => match f env S with
  | .nx e S' => g e S'
  | r => r
theorem qs_nil : QSs X W [] sNil := pss_nil.imp fun E σ H h => by
  obtain ⟨ρ, S, env, a, q⟩ := h
  exact q ρ H σ .refl a
theorem AftS.nxt {K : PySem.W.Frag} {mg : Str → Option Value} {ρ : Nat → Addr} {S : Store} {H : Hp} {env : EnvP} {E : Ends} (q : AftS K mg W ρ S.length H (sSeq f g env S) E) : AftS K mg W ρ S.length H (f env S) { E with nx := LS K mg W g E } := by
  unfold sSeq at q
  cases h : f env S with
  | nx e S' => rw [h] at q; exact fun ρ' H' σ' x y => ⟨ρ', S', e, y, q.rebase x⟩
  | rt d S' => rw [h] at q; exact q
  | bk e S' => rw [h] at q; exact q
  | ct e S' => rw [h] at q; exact q
  | exc c x y e S' => rw [h] at q; exact q
  | bad => rw [h] at q; exact q
theorem qs_cons (h1 : QS X W st f) (h2 : QSs X W rest g) : QSs X W (st :: rest) (sSeq f g) := (pss_cons h1 h2).imp fun E σ H h => by
  obtain ⟨ρ, S, env, a, q⟩ := h
  exact ⟨ρ, S, env, a, q.nxt⟩
theorem qs_one (h1 : QS X W st f) : QSs X W [st] f := pss_one h1
def sPass : Sv := fun env S => .nx env S
def sBreak : Sv := fun env S => .bk env S
def sCont : Sv := fun env S => .ct env S
theorem qs_pass : QS X W (.Pass pos) sPass := ps_pass.imp fun E σ H h => by
  obtain ⟨ρ, S, env, a, q⟩ := h
  exact q ρ H σ .refl a
theorem qs_break : QS X W (.Break pos) sBreak := ps_break.imp fun E σ H h => by
  obtain ⟨ρ, S, env, a, q⟩ := h
  exact q ρ H σ .refl a
theorem qs_continue : QS X W (.Continue pos) sCont := ps_continue.imp fun E σ H h => by
  obtain ⟨ρ, S, env, a, q⟩ := h
  exact q ρ H σ .refl a
def sExpr (f : Ev) : Sv := fun env S => (f env S).andT env fun _ S1 => .nx env S1
theorem qs_expr (he : QE X W e fe) (hs : swapsWith e none pos.line X.env = pure false := by rfl) : QS X W (.Expr e pos) (sExpr fe) := (ps_expr he hs).imp fun E σ H h => by
  obtain ⟨ρ, S, env, a, q⟩ := h
  exact ⟨ρ, S, env, a, (q.andT a).mono fun x S1 ρ1 H1 e1 r1 f1 => fun v hv => f1 ρ1 H1 σ .refl (a.ext e1 r1)⟩
def sRet (f : Ev) : Sv := fun env S => (f env S).andT env fun d S1 => .rt d S1
theorem qs_ret (he : QE X W e fe) : QS X W (.Return (some e) pos) (sRet fe) := (ps_ret he).imp fun E σ H h => by
  obtain ⟨ρ, S, env, a, q⟩ := h
  exact ⟨ρ, S, env, a, (q.andT a).mono fun x S1 ρ1 H1 e1 r1 f1 => fun v hv => f1 ρ1 H1 v .refl r1 hv⟩
def sRetN : Sv := fun env S => .rt .non S
theorem qs_retN : QS X W (.Return none pos) sRetN := ps_retN.imp fun E σ H h => by
  obtain ⟨ρ, S, env, a, q⟩ := h
  exact q ρ H _ .refl a.rel .non
def sIf (t : EnvP → Store → R Bool) (f g : Sv) : Sv := fun env S => (t env S).andT env fun k S1 => if k = true then f env S1 else g env S1
theorem qs_if {c : Expr} {a b : List Stmt} {t : EnvP → Store → R Bool} (hc : QT X W c t) (ha : QSs X W a f) (hb : QSs X W b g) : QS X W (.If c a b pos) (sIf t f g) := (ps_if hc ha hb).imp fun E σ H h => by
  obtain ⟨ρ, S, env, a, q⟩ := h
  refine ⟨ρ, S, env, a, (q.andT a).mono fun k S1 ρ1 H1 e1 r1 f1 => ?_⟩
  show if k = true then _ else _
  split at f1
  · rw [if_pos ‹_›]
    exact ⟨ρ1, S1, env, a.ext e1 r1, f1⟩
  · rw [if_neg ‹_›]
    exact ⟨ρ1, S1, env, a.ext e1 r1, f1⟩
/-- code that is never come to -/
def sNever : Sv := fun _ _ => .bad
theorem qs_never : QS X W st sNever := ps_never.imp fun E σ H h => by
  obtain ⟨ρ, S, env, a, q⟩ := h
  exact q.elim
theorem qss_never {sts : List Stmt} : QSs X W sts sNever := pss_never.imp fun E σ H h => by
  obtain ⟨ρ, S, env, a, q⟩ := h
  exact q.elim
def fNever : Ev := fun _ _ => .bad

/-! ### targets -/
abbrev Pt := D → EnvP → Option EnvP
abbrev Pts := List D → EnvP → Option EnvP
section
variable (K : PySem.W.Frag) (mg : Str → Option Value)
def LG (p : Pt) : TG := fun v σ H Q => ∃ ρ S env d env', At K mg ρ S H env σ ∧ RD K mg ρ S.length H d v ∧ p d env = some env' ∧ ∀ σ', At K mg ρ S H env' σ' → Q σ' H
def LGs (p : Pts) : TGs := fun vs σ H Q => ∃ ρ S env ds env', At K mg ρ S H env σ ∧ RDs K mg ρ S.length H ds vs ∧ p ds env = some env' ∧ ∀ σ', At K mg ρ S H env' σ' → Q σ' H
end
theorem _root_.L2.PG.imp {X : Cx} {tg : Expr} {t t' : TG} (h : PG X tg t) (i : ∀ v σ H Q, t' v σ H Q → t v σ H Q) : PG X tg t' := ⟨fun pins s σ H v u Q I r q => h.run pins s σ H v u Q I r (i v σ H Q q)⟩
theorem _root_.L2.PGs.imp {X : Cx} {tg : List Expr} {t t' : TGs} (h : PGs X tg t) (i : ∀ v σ H Q, t' v σ H Q → t v σ H Q) : PGs X tg t' := ⟨fun pins s σ H v u Q I r q => h.run pins s σ H v u Q I r (i v σ H Q q)⟩
abbrev QG (X : Cx) (tg : Expr) (p : Pt) : Prop := PG X tg (LG X.K X.mg p)
abbrev QGs (X : Cx) (tgs : List Expr) (p : Pts) : Prop := PGs X tgs (LGs X.K X.mg p)
def ptName (i : Nat) : Pt := fun d env => some (env.set i (some d))
theorem At.set {K : PySem.W.Frag} {mg : Str → Option Value} {ρ : Nat → Addr} {S : Store} {H : Hp} {env : EnvP} {σ : L2.St} {d : D} {v : V} (a : At K mg ρ S H env σ) (i : Nat) (r : RD K mg ρ S.length H d v) : At K mg ρ S H (env.set i (some d)) (σ.set i (some v)) := ⟨a.rel, a.env.set i r⟩
theorem qg_name {i : Nat} {tg : Expr} (h : PG X tg (gName i)) : QG X tg (ptName i) := h.imp fun v σ H Q h => by
  obtain ⟨ρ, S, env, d, env', a, r, e, q⟩ := h
  cases e
  exact q _ (a.set i r)
def ptNil : Pts := fun ds env => match ds with
  | [] => some env
  | _ => none
def ptCons (p : Pt) (q : Pts) : Pts := fun ds env => match ds with
  | d :: r => (p d env).bind fun e => q r e
  | [] => none
theorem qgs_nil : QGs X [] ptNil := pgs_nil.imp fun vs σ H Q h => by
  obtain ⟨ρ, S, env, ds, env', a, r, e, q⟩ := h
  unfold ptNil at e
  split at e
  · cases e
    cases r
    exact ⟨rfl, q σ a⟩
  · cases e
theorem qgs_cons {e : Expr} {es : List Expr} {p : Pt} {q : Pts} (h1 : QG X e p) (h2 : QGs X es q) (hs : (assignEach (e :: es) X.env).map (·.2) = assign e X.env :: (assignEach es X.env).map (·.2) := by rfl) : QGs X (e :: es) (ptCons p q) := (pgs_cons h1 h2 hs).imp fun vs σ H Q h => by
  obtain ⟨ρ, S, env, ds, env', a, r, e, k⟩ := h
  unfold ptCons at e
  split at e
  · cases r with
    | cons rd rr =>
      rename_i d ds' _ _
      cases hp : p d env with
      | none => rw [hp] at e; cases e
      | some env1 =>
        rw [hp] at e
        exact ⟨_, _, rfl, ρ, S, env, d, env1, a, rd, hp, fun σ1 a1 => ⟨ρ, S, env1, ds', env', a1, rr, e, k⟩⟩
  · cases e
def ptTup (n : Nat) (q : Pts) : Pt := fun d env => match d with
  | .tup ds => if ds.length = n then q ds env else none
  | _ => none
theorem qg_tup {es : List Expr} {k n : Nat} {q : Pts} (hc : X.calm = true) (h : QGs X es q) (hn : (assignEach es X.env).length = n := by rfl) (hst : (assignEach es X.env).findIdx? (·.1) = none := by rfl) : QG X (.Tuple es k pos) (ptTup n q) := (pg_tup hc h hn hst).imp fun v σ H Q h => by
  obtain ⟨ρ, S, env, d, env', a, r, e, k⟩ := h
  unfold ptTup at e
  split at e
  · cases r with
    | tup q t =>
      split at e
      · rename_i hh
        exact ⟨_, _, rfl, q, by rw [← t.length]; exact hh, ρ, S, env, _, env', a, t, e, k⟩
      · cases e
  · cases e
def sSet (i : Nat) (f : Ev) : Sv := fun env S => (f env S).andT env fun d S1 => .nx (env.set i (some d)) S1
theorem qs_set {i : Nat} (h : PS X st (tAsg (LE X.K X.mg W fe) (gName i))) : QS X W st (sSet i fe) := h.imp fun E σ H h => by
  obtain ⟨ρ, S, env, a, q⟩ := h
  exact ⟨ρ, S, env, a, (q.andT a).mono fun x S1 ρ1 H1 e1 r1 f1 => fun v hv => f1 ρ1 H1 _ .refl ((a.ext e1 r1).set i hv)⟩
def sAsg (p : Pt) (f : Ev) : Sv := fun env S => (f env S).andT env fun d S1 => match p d env with
  | some e => .nx e S1
  | none => .bad
theorem qs_asg {p : Pt} {tg : Expr} (he : QE X W e fe) (hg : QG X tg p) (hs : swapsWithSole [tg] e pos.line X.env = pure false := by rfl) (hw : swappedStores [tg] e X.env = pure none := by rfl)
    (h1 : (assignEach [tg] X.env).map (·.2) = [assign tg X.env] := by rfl) : QS X W (.Assign [tg] e pos) (sAsg p fe) := (ps_asg he hg hs hw h1).imp fun E σ H h => by
  obtain ⟨ρ, S, env, a, q⟩ := h
  refine ⟨ρ, S, env, a, (q.andT a).mono fun x S1 ρ1 H1 e1 r1 f1 => fun v hv => ?_⟩
  split at f1
  · exact ⟨ρ1, S1, env, x, _, a.ext e1 r1, hv, ‹_›, fun σ' a' => f1 ρ1 H1 σ' .refl a'⟩
  · exact f1.elim
/-- a, b = x, y with two names -/
def sPar (i j : Nat) (fs : EnvP → Store → R (List D)) : Sv := fun env S => (fs env S).andT env fun ds S1 => match ds with
  | [d, e] => .nx ((env.set i (some d)).set j (some e)) S1
  | _ => .bad
theorem qs_par {i j : Nat} {fs : EnvP → Store → R (List D)} (h : PS X st (tPar i j (LA X.K X.mg W fs))) : QS X W st (sPar i j fs) := h.imp fun E σ H h => by
  obtain ⟨ρ, S, env, a, q⟩ := h
  refine ⟨ρ, S, env, a, (q.andT a).mono fun x S1 ρ1 H1 e1 r1 f1 => fun vs hv => ?_⟩
  split at f1
  · cases hv with
    | cons r1' t =>
      cases t with
      | cons r2' t =>
        cases t
        exact ⟨_, _, rfl, f1 ρ1 H1 _ .refl (((a.ext e1 r1).set i r1').set j r2')⟩
  · exact f1.elim
end

/-! ### while -/
def whileN (t : EnvP → Store → R Bool) (b : Sv) : Nat → Sv
  | 0, _, _ => .bad
  | n + 1, e, S => (t e S).andT e fun k S1 => if k = true then (match b e S1 with
      | .nx e2 S2 => whileN t b n e2 S2
      | .ct e2 S2 => whileN t b n e2 S2
      | .bk e2 S2 => .nx e2 S2
      | r => r) else .nx e S1
theorem whileN_mono (t : EnvP → Store → R Bool) (b : Sv) : ∀ (n : Nat) (e : EnvP) (S : Store), whileN t b n e S ≠ .bad → whileN t b (n + 1) e S = whileN t b n e S
  | 0, e, S, h => absurd rfl h
  | n + 1, e, S, h => by
    unfold whileN at h ⊢
    cases q : t e S with
    | ok k S1 =>
      simp only [q, R.andT] at h ⊢
      by_cases hk : k = true
      · simp only [hk, if_true] at h ⊢
        cases z : b e S1 with
        | nx e2 S2 => simp only [z] at h ⊢; exact whileN_mono t b n e2 S2 h
        | ct e2 S2 => simp only [z] at h ⊢; exact whileN_mono t b n e2 S2 h
        | _ => rfl
      · rw [if_neg hk, if_neg hk]
    | exc c f x S1 => rfl
    | bad => rfl
theorem whileN_le (t : EnvP → Store → R Bool) (b : Sv) {n m : Nat} (hnm : n ≤ m) {e : EnvP} {S : Store} (h : whileN t b n e S ≠ .bad) : whileN t b m e S = whileN t b n e S := by
  induction hnm with
  | refl => rfl
  | step _ ih =>
    rw [whileN_mono t b _ e S (by rw [ih]; exact h), ih]
open Classical in
noncomputable def sWhile (t : EnvP → Store → R Bool) (b : Sv) : Sv := fun e S => if h : ∃ n, whileN t b n e S ≠ .bad then whileN t b h.choose e S else .bad
theorem sWhile_of (t : EnvP → Store → R Bool) (b : Sv) {n : Nat} {e : EnvP} {S : Store} (h : whileN t b n e S ≠ .bad) : sWhile t b e S = whileN t b n e S := by
  have ex : ∃ n, whileN t b n e S ≠ .bad := ⟨n, h⟩
  unfold sWhile
  rw [dif_pos ex]
  rcases Nat.le_total n ex.choose with hl | hl
  · exact whileN_le t b hl h
  · exact (whileN_le t b hl ex.choose_spec).symm
theorem sWhile_ex (t : EnvP → Store → R Bool) (b : Sv) {e : EnvP} {S : Store} (h : sWhile t b e S ≠ .bad) : ∃ n, sWhile t b e S = whileN t b n e S ∧ whileN t b n e S ≠ .bad := by
  by_cases ex : ∃ n, whileN t b n e S ≠ .bad
  · obtain ⟨n, hn⟩ := ex
    exact ⟨n, sWhile_of t b hn, hn⟩
  · unfold sWhile at h
    rw [dif_neg ex] at h
    exact absurd rfl h
/-- one turn -/
theorem sWhile_eq (t : EnvP → Store → R Bool) (b : Sv) (e : EnvP) (S : Store) : sWhile t b e S = (t e S).andT e fun k S1 => if k = true then (match b e S1 with
      | .nx e2 S2 => sWhile t b e2 S2
      | .ct e2 S2 => sWhile t b e2 S2
      | .bk e2 S2 => .nx e2 S2
      | r => r) else .nx e S1 := by
  have bad_or : ∀ e2 S2, sWhile t b e2 S2 = .bad ∨ ∃ n, sWhile t b e2 S2 = whileN t b n e2 S2 ∧ whileN t b n e2 S2 ≠ .bad := fun e2 S2 => by
    by_cases h : sWhile t b e2 S2 = .bad
    · exact .inl h
    · exact .inr (sWhile_ex t b h)
  have none_of : ∀ e2 S2, sWhile t b e2 S2 = .bad → ∀ n, whileN t b n e2 S2 = .bad := fun e2 S2 h n => by
    by_cases q : whileN t b n e2 S2 = .bad
    · exact q
    · rw [sWhile_of t b q] at h
      exact absurd h q
  have of_all : (∀ n, whileN t b n e S = .bad) → sWhile t b e S = .bad := fun h => by
    unfold sWhile
    rw [dif_neg fun ⟨n, hn⟩ => hn (h n)]
  cases q : t e S with
  | ok k S1 =>
    simp only [R.andT]
    by_cases hk : k = true
    · simp only [hk, if_true]
      have step : ∀ n, whileN t b (n + 1) e S = (match b e S1 with
          | .nx e2 S2 => whileN t b n e2 S2
          | .ct e2 S2 => whileN t b n e2 S2
          | .bk e2 S2 => .nx e2 S2
          | r => r) := fun n => by
        rw [whileN]
        simp only [q, R.andT, hk, if_true]
      have go : ∀ e2 S2, (∀ n, whileN t b (n + 1) e S = whileN t b n e2 S2) → sWhile t b e S = sWhile t b e2 S2 := fun e2 S2 hs => by
        rcases bad_or e2 S2 with h | ⟨n, h1, h2⟩
        · rw [h]
          refine of_all fun n => ?_
          cases n with
          | zero => rfl
          | succ n => rw [hs, none_of e2 S2 h]
        · rw [h1, ← hs n]
          exact sWhile_of t b (by rw [hs]; exact h2)
      cases z : b e S1 with
      | nx e2 S2 => exact go e2 S2 fun n => by rw [step, z]
      | ct e2 S2 => exact go e2 S2 fun n => by rw [step, z]
      | bad =>
        refine of_all fun n => ?_
        cases n with
        | zero => rfl
        | succ n => rw [step, z]
      | bk e2 S2 => rw [sWhile_of t b (n := 1) (by rw [step, z]; exact fun x => nomatch x), step, z]
      | rt d S2 => rw [sWhile_of t b (n := 1) (by rw [step, z]; exact fun x => nomatch x), step, z]
      | exc c f x e2 S2 => rw [sWhile_of t b (n := 1) (by rw [step, z]; exact fun x => nomatch x), step, z]
    · have s1 : whileN t b 1 e S = .nx e S1 := by
        rw [whileN]
        simp only [q, R.andT]
        rw [if_neg hk]
      rw [sWhile_of t b (n := 1) (by rw [s1]; exact fun x => nomatch x), s1, if_neg hk]
  | exc c f x S1 =>
    have s1 : whileN t b 1 e S = .exc c f x e S1 := by
      rw [whileN]
      simp only [q, R.andT]
    rw [sWhile_of t b (n := 1) (by rw [s1]; exact fun x => nomatch x), s1]
    rfl
  | bad =>
    refine of_all fun n => ?_
    cases n with
    | zero => rfl
    | succ n =>
      rw [whileN]
      simp only [q, R.andT]
section
variable {X : Cx} {W : WX} {c : Expr} {body : List Stmt} {t : EnvP → Store → R Bool} {b : Sv} {pos : Pos}
theorem qs_while (hp : PassesOwn (model X.prog X.w) X.A X.env X.xe) (hc : QT X W c t) (hb : QSs X W body b) : QS X W (.While c body [] pos) (sWhile t b) := (ps_while hp hc hb).imp fun E σ H h => by
  obtain ⟨ρ, S, env, a, q⟩ := h
  have nb : sWhile t b env S ≠ .bad := fun z => by rw [z] at q; exact q
  obtain ⟨n, e, _⟩ := sWhile_ex t b nb
  rw [e] at q
  refine ⟨fun m σ H => ∃ ρ S env, At X.K X.mg ρ S H env σ ∧ AftS X.K X.mg W ρ S.length H (whileN t b m env S) E, ⟨n, ρ, S, env, a, q⟩, ?_⟩
  rintro m σ1 H1 ⟨ρ1, S1, env1, a1, q1⟩
  cases m with
  | zero => exact q1.elim
  | succ m =>
    unfold whileN at q1
    refine ⟨ρ1, S1, env1, a1, (q1.andT a1).mono fun k S2 ρ2 H2 e2 r2 f2 => ?_⟩
    show if k = true then _ else _
    split at f2
    · rw [if_pos ‹_›]
      refine ⟨fun σ H => ∃ ρ S env, At X.K X.mg ρ S H env σ ∧ AftS X.K X.mg W ρ S.length H (whileN t b m env S) E, fun σ' H' z => ⟨m, Nat.lt_succ_self _, z⟩, ρ2, S2, env1, a1.ext e2 r2, ?_⟩
      cases z : b env1 S2 with
      | nx e3 S3 => rw [z] at f2; exact fun ρ' H' σ' x y => ⟨ρ', S3, e3, y, f2.rebase x⟩
      | ct e3 S3 => rw [z] at f2; exact fun ρ' H' σ' x y => ⟨ρ', S3, e3, y, f2.rebase x⟩
      | bk e3 S3 => rw [z] at f2; exact f2
      | rt d S3 => rw [z] at f2; exact f2
      | exc c f x e3 S3 => rw [z] at f2; exact f2
      | bad => rw [z] at f2; exact f2
    · rw [if_neg ‹_›]
      exact f2 ρ2 H2 σ1 .refl (a1.ext e2 r2)
end
end EV

set_option maxRecDepth 100000
set_option autoImplicit false
/-! EV: defs and their calls. -/
namespace EV
open PySem PySem.Spec PyProof.Rows L2

abbrev FnSem := List D → Store → R D
def fDef (m : Nat) (b : Sv) : FnSem := fun ds S => match b (ds.map some ++ List.replicate (m - ds.length) none) S with
  | .rt d S' => .ok d S'
  | .nx _ S' => .ok .non S'
  | .exc c f x _ S' => .exc c f x S'
  | _ => .bad
def spOf (K : PySem.W.Frag) (mg : Str → Option Value) (n : Nat) (F : FnSem) : Sp := fun vs H Q E => vs.length = n ∧ ∃ ρ S ds, Rel K mg ρ S H ∧ RDs K mg ρ S.length H ds vs ∧ Aft K mg ρ S.length H (F ds S) (PV K mg Q) E
/-- a def does what F says (no repr is under way at its call) -/
structure FnG (P : Program) (w : World) (K : PySem.W.Frag) (mg : Str → Option Value) (base : Heap) (k : Nat) (f : Addr) (fd : FuncData) (ps : List Str) (F : FnSem) : Prop where
  run : ∀ (A : Around) (outer : List Env) (s : Shared) (H : Hp) (args : Args) (us : List Value) (vs : List V) (Q : VK) (E : XK), Room k A → A.guards = some [] → Env0 P w K mg base A outer s H → BindsTo s fd args (ps.zip us) → Vals vs us →
    spOf K mg ps.length F vs H Q E → codeAny (model P w) A (.call (.ref f) args) (CR (L2.CX P w) outer P w H s Q E) s
section
variable {P : Program} {w : World} {K : PySem.W.Frag} {mg : Str → Option Value} {base : Heap}
theorem FnG.mono {j k : Nat} {f : Addr} {fd : FuncData} {ps : List Str} {F : FnSem} (h : FnG P w K mg base j f fd ps F) (hk : j ≤ k) : FnG P w K mg base k f fd ps F :=
  ⟨fun A outer s H args us vs Q E hr => h.run A outer s H args us vs Q E (hr.mono hk)⟩
/-- the context of a def's body -/
abbrev bodyX (P : Program) (w : World) (K : PySem.W.Frag) (mg : Str → Option Value) (base : Heap) (N : List Str) (qual : Str) (scope : Scope) (f : Addr) (cdv : Value) (A : Around) (outer : List Env) (s : Shared) (H : Hp) (E : XK) : Cx :=
  cxOf (L2.CX P w) P w K mg base N qual scope f cdv A outer s H E
abbrev bodyW (E : XK) : WX := fun cls d _ H => E cls d H
theorem fnG_mk {x qual : Str} {params : Arguments} {body : List Stmt} {scope : Scope} {dvs : List V} {kws : List (Str × V)} {f : Addr} {fd : FuncData} {N ps : List Str} {k m : Nat} {b : Sv} (FD : FunD K x qual params body scope dvs kws f fd) (S : FnScope N ps scope) (hm : N.length = m)
    (hbody : ∀ (cdv : Value) (A : Around) (outer : List Env) (s : Shared) (H : Hp) (E : XK), Room k (A.deeper (envOfC qual scope s.heap.objs.size f cdv)) → A.guards = some [] → Takes (bodyX P w K mg base N qual scope f cdv A outer s H E) (bodyW E) →
      QSs (bodyX P w K mg base N qual scope f cdv A outer s H E) (bodyW E) body b) : FnG P w K mg base (k + 1) f fd ps (fDef m b) := by
  obtain ⟨oc, od, dV, kV, doc, pm, an, cdv, ct, osl, hfd, lk, hcd, _, _⟩ := FD.ex
  subst hfd
  constructor
  intro A outer s H args us vs Q E room gd e0 bind r sp
  obtain ⟨hl, ρ, St0, ds, rel, rds, aft⟩ := sp
  have inHeap : K.In s.heap := e0.mod.kin.keeps fun c o q => (e0.bs c o q).1
  have noLim : s.heap.NoLimit := e0.mod.nolimit.keeps fun c o q => (e0.bs c o q).1
  have kinds : ∀ y ∈ ps.zip us, scope.names.lookup y.1 = some .local ∨ (scope.names.lookup y.1 = some .cell ∧ ((cellsFrom (s.heap.objs.size + 1) scope.names []).lookup y.1).isSome = true) := by
    rintro ⟨n, v⟩ hy
    have q := S.par n (List.of_mem_zip hy).1
    exact q.elim .inl fun q => .inr ⟨q, PySem.W.cellsFrom_some _ _ _ (.inl q)⟩
  refine codeAny_call_function room.depth (inHeap _ _ lk) rfl S.co S.gen rfl (PySem.W.codeRec_of inHeap hcd) (bind _ _ _ _ ?_)
  refine wpAny_newFunctionEnv_cells S.kind kinds fun env he s1 xin => ?_
  subst he
  refine ⟨noLim.keeps xin.toInCall.keep, codeAny_func ?_⟩
  have I : Inv (bodyX P w K mg base N qual scope f cdv A outer s H E) [] (start N vs) H s1 := inv_start S room.hd e0 hl r xin
  have hq := hbody cdv A outer s H E (room.deeper _) gd (takes_of rfl rfl rfl rfl)
  have hstart : LS K mg (bodyW E) b { nx := fun _ H' => Q .non H', rt := Q } (start N vs) H := by
    refine ⟨ρ, St0, ds.map some ++ List.replicate (m - ds.length) none, ⟨rel, ?_⟩, ?_⟩
    · have e := REnv.start rds (m - ds.length)
      unfold L2.start
      rw [hm, ← rds.length]
      exact e
    · unfold fDef at aft
      split at aft
      · rename_i d S' hb
        rw [hb]
        exact fun ρ' H' v x y z => aft ρ' H' x y v z
      · rename_i e' S' hb
        rw [hb]
        exact fun ρ' H' σ' x y => aft ρ' H' x y.rel _ .non
      · rename_i c fl y e' S' hb
        rw [hb]
        exact fun ρ' H' σ' C p x y m q => aft ρ' H' C p x y.rel m q
      · exact aft.elim
  refine wpAny_mono (hq.run [] s1 (start N vs) H _ I hstart) (fun fl s' hs => ?_) fun e s' hs => hs
  have done : ∀ {σ' : L2.St} {H' : Hp} {v : V} {u : Value}, Inv (bodyX P w K mg base N qual scope f cdv A outer s H E) [] σ' H' s' → RelV v u → Q v H' → CE outer P w H s Q u s' := by
    intro σ' H' v u J rv q
    exact ⟨v, H', J.os, J.bare, J.base, J.hok, rv, q⟩
  match fl, hs with
  | .ret u, ⟨v, σ', H', J, rv, q⟩ => exact done J rv q
  | .next, ⟨σ', H', J, q⟩ => exact done (v := V.non) (u := Value.none) J rfl q
  | .brk, ⟨_, _, _, q⟩ => exact False.elim q
  | .cont, ⟨_, _, _, q⟩ => exact False.elim q
end

section
variable {X : Cx} {W : WX} {k : Nat} {f : Addr} {fd : FuncData} {ps : List Str} {F : FnSem} {x : Str} {p pos : Pos} {e : Expr} {es : List Expr} {fs : EnvP → Store → R (List D)} {dds : List D} {dvs : List V} {ds : List Value}
def fCall (F : FnSem) (dds : List D) (fs : EnvP → Store → R (List D)) : Ev := fun env S => (fs env S).bind fun xs S1 => F (xs ++ dds) S1
theorem run_fnG {pins : List (Addr × Obj)} {σ : L2.St} {H : Hp} {s : Shared} {Q : VK} {us : List Value} {vs : List V} (G : FnG X.prog X.w X.K X.mg X.base k f fd ps F) (hr : Room k X.A) (hg : X.A.guards = some []) (hb : Binds X.K fd ps ds) (hd : Vals dvs ds) (tk : Takes X W)
    (I : Inv X pins σ H s) (r : Vals vs us) (h : spOf X.K X.mg ps.length F (vs ++ dvs) H Q (WE W σ)) : wpAny (model X.prog X.w) X.A (call (.ref f) us) (EP X pins σ Q) X.xe s := by
  have r2 := r.append hd
  have bd := hb s us I.kIn (by rw [← r2.length]; exact h.1)
  refine wpAny_call (codeAny_mono (G.run X.A X.stack s H ⟨us, []⟩ (us ++ ds) (vs ++ dvs) Q (WE W σ) hr hg I.env0 bd r2 h) ?_)
  rintro (e | fl) s' hq
  · exact passAt tk σ pins H s e s' I hq
  · match fl, hq with
    | .ret u, hq => exact I.after hq
    | .next, hq => exact False.elim hq
    | .brk, hq => exact False.elim hq
    | .cont, hq => exact False.elim hq
theorem q_call (G : FnG X.prog X.w X.K X.mg X.base k f fd ps F) (hr : Room k X.A) (hgd : X.A.guards = some []) (hg : Gl X x) (hm : X.mg x = some (.ref f)) (hk : PySem.W.keepIn X.K (.ref f) = true) (hb : ∃ ds, Vals dvs ds ∧ Binds X.K fd ps ds) (hd : ∀ ρ N H, RDs X.K X.mg ρ N H dds dvs)
    (hn : es.length + 1 + dds.length = ps.length) (tk : Takes X W) (ha : QA X W (e :: es) fs) (hl : ∀ env S xs S', fs env S = .ok xs S' → xs.length = es.length + 1)
    (hdb : (x == ("__debug__" : Str)) = false := by decide) (he : starEach (e :: es) X.env = (false, eval e X.env) :: starEach es X.env := by rfl) (hpl : (backTo pos (starEach es X.env)).any (·.1) = false := by rfl) :
    QE X W (.Call (.Name x p) (e :: es) [] pos) (fCall F dds fs) := by
  obtain ⟨ds, hds, hb⟩ := hb
  refine ⟨fun pins s σ H Q I h => ?_⟩
  obtain ⟨ρ, S, env, a, q⟩ := h
  refine wpAny_Call_Name_kw (ld_glob I hg hm ?_ hdb)
  have ha' : LA X.K X.mg W fs σ H fun vs H1 => spOf X.K X.mg ps.length F (vs ++ dvs) H1 Q (WE W σ) := by
    cases hfs : fs env S with
    | ok xs S1 =>
      refine ⟨ρ, S, env, a, ?_⟩
      rw [hfs]
      have q1 := Aft.bind q
      rw [hfs] at q1
      intro ρ1 H1 e1 r1 vs hvs
      have lens := hl env S xs S1 hfs
      have dl := (hd ρ1 S1.length H1).length
      refine ⟨by rw [List.length_append, ← hvs.length, ← dl]; omega, ρ1, S1, xs ++ dds, r1, hvs.append (hd _ _ _), q1 ρ1 H1 e1 r1⟩
    | exc c f x S1 =>
      have q1 := Aft.bind q
      rw [hfs] at q1
      exact ⟨ρ, S, env, a, by rw [hfs]; exact q1⟩
    | bad =>
      have q1 := Aft.bind q
      rw [hfs] at q1
      exact q1.elim
  refine PySem.W.callWith_K (h₀ := X.base) I.ok.mod.kin hk (thn (ha.run pos pins s σ H _ I ha') fun us s1 ⟨vs, H1, I1, r, q⟩ => ⟨I1.kIn, ?_⟩) he hpl
  exact run_fnG G hr hgd hb hds tk I1 r q
/-- how many values an argument list gives -/
theorem len_nil {env : EnvP} {S S' : Store} {xs : List D} (h : fNil env S = .ok xs S') : xs.length = 0 := by
  cases h
  rfl
theorem len_cons {f : Ev} {n : Nat} (hr : ∀ env S xs S', fs env S = .ok xs S' → xs.length = n) : ∀ env S xs S', fCons f fs env S = .ok xs S' → xs.length = n + 1 := by
  intro env S xs S' h
  unfold fCons at h
  cases h1 : f env S with
  | ok d S1 =>
    rw [h1] at h
    simp only [R.bind] at h
    cases h2 : fs env S1 with
    | ok ys S2 =>
      rw [h2] at h
      simp only [R.ok.injEq] at h
      obtain ⟨h, _⟩ := h
      subst h
      rw [List.length_cons, hr _ _ _ _ h2]
    | _ => rw [h2] at h; cases h
  | _ => rw [h1] at h; cases h
end
end EV

set_option maxRecDepth 100000
set_option autoImplicit false
/-! EV: for, comprehensions, stores to places. -/
namespace EV
open PySem PySem.Spec PyProof.Rows L2

def Held (gs : List (Nat × O)) (S : Store) : Prop := ∀ p ∈ gs, S[p.1]? = some p.2
section
variable (K : PySem.W.Frag) (mg : Str → Option Value)
def JOk (ρ0 : Nat → Addr) (N0 : Nat) (H0 : Hp) (a : List D × List (Nat × O)) (J : It) : Prop := ∀ ρ (S : Store) H, Ext ρ0 N0 H0 ρ S.length H → Rel K mg ρ S H → Held a.2 S →
  (∀ (i : Nat) d, a.1[i]? = some d → J.go i H ∧ ∀ x H', J.yld i H x H' → Ext ρ S.length H ρ S.length H' ∧ Rel K mg ρ S H' ∧ RD K mg ρ S.length H' d x) ∧ J.stop a.1.length H
abbrev Ei := EnvP → Store → R (List D × List (Nat × O))
def LI (W : WX) (fi : Ei) : TI := fun σ H R => ∃ ρ S env, At K mg ρ S H env σ ∧ Aft K mg ρ S.length H (fi env S) (fun a S' ρ' H' => ∀ J, JOk K mg ρ' S'.length H' a J → R J H') (WE W σ)
end
theorem JOk.rebase {K : PySem.W.Frag} {mg : Str → Option Value} {ρ0 ρ1 : Nat → Addr} {N0 N1 : Nat} {H0 H1 : Hp} {a : List D × List (Nat × O)} {J : It} (h : JOk K mg ρ0 N0 H0 a J) (e : Ext ρ0 N0 H0 ρ1 N1 H1) : JOk K mg ρ1 N1 H1 a J :=
  fun ρ S H x y z => h ρ S H (e.trans x) y z
theorem _root_.L2.PI.imp {X : Cx} {tg iter : Expr} {t t' : TI} (h : PI X tg iter t) (i : ∀ σ H R, t' σ H R → t σ H R) : PI X tg iter t' := ⟨fun pins s σ H R I q => h.run pins s σ H R I (i σ H R q)⟩
theorem _root_.L2.PI.or {X : Cx} {tg iter : Expr} {t t' : TI} (h : PI X tg iter t) (h' : PI X tg iter t') : PI X tg iter (fun σ H R => t σ H R ∨ t' σ H R) := ⟨fun pins s σ H R I q => q.elim (h.run pins s σ H R I) (h'.run pins s σ H R I)⟩
abbrev QI (X : Cx) (W : WX) (tg iter : Expr) (fi : Ei) : Prop := PI X tg iter (LI X.K X.mg W fi)

/-! ### what is walked -/
section
variable {X : Cx} {W : WX} {tg e : Expr} {fa : Ev} {fs : EnvP → Store → R (List D)} {pos p : Pos}
def itSeq (x : D) (S : Store) : R (List D × List (Nat × O)) := match x with
  | .tup ds => .ok (ds, []) S
  | .ref n => match S[n]? with
    | some (.lst ds) => .ok (ds, [(n, .lst ds)]) S
    | _ => .bad
  | _ => .bad
def fiSeq (fa : Ev) : Ei := fun env S => (fa env S).bind itSeq
theorem jok_lst {ρ0 : Nat → Addr} {S0 : Store} {H0 : Hp} {n : Nat} {ds : List D} (hn : n < S0.length) : JOk X.K X.mg ρ0 S0.length H0 (ds, [(n, .lst ds)]) (Itl X.K (ρ0 n)) := by
  intro ρ S H e rel held
  have hs : S[n]? = some (.lst ds) := held (n, .lst ds) (List.mem_singleton.mpr rfl)
  have o := rel.obj _ _ hs
  rw [e.map n hn] at o
  cases o with
  | lst a1 a2 =>
    have sq : SqL X.K H (ρ0 n) _ := .inl (.inl a1)
    refine ⟨fun i d hd => ?_, ⟨_, sq, by rw [← a2.length]; exact Nat.le_refl _⟩⟩
    obtain ⟨v, h1, h2⟩ := a2.get hd
    refine ⟨⟨_, v, sq, h1⟩, fun x H' y => ?_⟩
    obtain ⟨rfl, y⟩ := y
    have := (y _ sq).symm.trans h1
    cases this
    exact ⟨.refl, rel, h2⟩
theorem jok_tup {ρ0 : Nat → Addr} {N0 : Nat} {H0 : Hp} {a : Addr} {ds : List D} {vs : List V} (q : SqT X.K H0 a vs) (t : RDs X.K X.mg ρ0 N0 H0 ds vs) : JOk X.K X.mg ρ0 N0 H0 (ds, []) (Itt X.K a) := by
  intro ρ S H e rel held
  have q' := sqT_imm e.imm q
  have t' := t.ext e
  refine ⟨fun i d hd => ?_, ⟨_, q', by rw [← t.length]; exact Nat.le_refl _⟩⟩
  obtain ⟨v, h1, h2⟩ := t'.get hd
  refine ⟨⟨_, v, q', h1⟩, fun x H' y => ?_⟩
  obtain ⟨rfl, y⟩ := y
  have := (y _ q').symm.trans h1
  cases this
  exact ⟨.refl, rel, h2⟩
theorem qi_seq (ha : QE X W e fa) : QI X W tg e (fiSeq fa) := by
  refine ((pi_list ha).or (pi_tup ha)).imp fun σ H R h => ?_
  obtain ⟨ρ, S, env, a, q⟩ := h
  unfold fiSeq at q
  cases hf : fa env S with
  | bad => rw [hf] at q; exact q.elim
  | exc c f x S1 => rw [hf] at q; exact .inl ⟨ρ, S, env, a, by rw [hf]; exact q⟩
  | ok d S1 =>
    rw [hf] at q
    have q1 := Aft.bind q
    cases d with
    | tup ds =>
      refine .inr ⟨ρ, S, env, a, ?_⟩
      rw [hf]
      intro ρ1 H1 e1 r1 v hv
      cases hv with
      | tup sq t => exact ⟨_, rfl, ⟨_, sq⟩, (Aft.ok (q1 ρ1 H1 e1 r1) r1) _ (jok_tup sq t)⟩
    | ref n =>
      refine .inl ⟨ρ, S, env, a, ?_⟩
      rw [hf]
      intro ρ1 H1 e1 r1 v hv
      have f1 := q1 ρ1 H1 e1 r1
      simp only [itSeq] at f1
      split at f1
      · rename_i ds hs
        obtain ⟨e, ws, h1, h2⟩ := ref_lst r1 hv hs
        subst e
        exact ⟨_, rfl, ⟨_, .inl (.inl h1)⟩, (Aft.ok f1 r1) _ (jok_lst (List.getElem?_eq_some_iff.mp hs).1)⟩
      · exact f1.elim
    | _ =>
      refine .inl ⟨ρ, S, env, a, ?_⟩
      rw [hf]
      exact fun ρ1 H1 e1 r1 => (q1 ρ1 H1 e1 r1).elim
/-- range -/
def rngD (lo : Int) (n : Nat) (c : Int) : List D := (List.range n).map fun i => .int (lo + (i : Nat) * c)
theorem rngD_at {lo c : Int} {n i : Nat} {d : D} (h : (rngD lo n c)[i]? = some d) : i < n ∧ d = .int (lo + (i : Nat) * c) := by
  unfold rngD at h
  rw [List.getElem?_map] at h
  cases q : (List.range n)[i]? with
  | none => rw [q] at h; cases h
  | some j =>
    rw [q] at h
    obtain ⟨hi, e⟩ := List.getElem?_eq_some_iff.mp q
    rw [List.getElem_range] at e
    subst e
    rw [List.length_range] at hi
    exact ⟨hi, (Option.some.inj h).symm⟩
theorem rngD_len {lo c : Int} {n : Nat} : (rngD lo n c).length = n := by
  unfold rngD
  rw [List.length_map, List.length_range]
def M62 : Int := 4611686018427387904
def fiRng (fs : EnvP → Store → R (List D)) : Ei := fun env S => (fs env S).bind fun xs S1 => match xs with
  | [.int j] => if -M62 ≤ j ∧ j < M62 then .ok (rngD 0 j.toNat 1, []) S1 else .bad
  | [.int i, .int j] => if -M62 ≤ i ∧ i < M62 ∧ -M62 ≤ j ∧ j < M62 then .ok (rngD i (j - i).toNat 1, []) S1 else .bad
  | _ => .bad
theorem jok_rng {ρ0 : Nat → Addr} {N0 : Nat} {H0 : Hp} {lo : Int} {n : Nat} : JOk X.K X.mg ρ0 N0 H0 (rngD lo n 1, []) (Itr lo n) := by
  intro ρ S H e rel held
  refine ⟨fun i d hd => ?_, by rw [rngD_len]; exact Nat.le_refl n⟩
  obtain ⟨hi, rfl⟩ := rngD_at hd
  refine ⟨hi, fun x H' y => ?_⟩
  obtain ⟨rfl, rfl⟩ := y
  rw [Int.mul_one]
  exact ⟨.refl, rel, .int _⟩
theorem qi_rng1 {a : Expr} (hg : Gl X "range") (hm : X.mg "range" = none) (ha : QA X W [a] fs) (hs : starEach [a] X.env = [(false, eval a X.env)] := by rfl) (hn : ∀ env S xs S', fs env S = .ok xs S' → xs.length = 1) : QI X W tg (.Call (.Name "range" p) [a] [] pos) (fiRng fs) := by
  refine (pi_range1 hg hm ha hs).imp fun σ H R h => ?_
  obtain ⟨ρ, S, env, a, q⟩ := h
  refine ⟨ρ, S, env, a, ?_⟩
  cases hf : fs env S with
  | bad => unfold fiRng at q; rw [hf] at q; exact q.elim
  | exc c f x S1 => unfold fiRng at q; rw [hf] at q; exact q
  | ok xs S1 =>
    unfold fiRng at q
    rw [hf] at q
    have q1 := Aft.bind q
    have l1 := hn env S xs S1 hf
    intro ρ1 H1 e1 r1 vs hv
    have f1 := q1 ρ1 H1 e1 r1
    dsimp only at f1
    split at f1
    · split at f1
      · rename_i hb
        cases hv with
        | cons r t =>
          cases t; cases r
          unfold M62 at hb
          exact ⟨_, rfl, by omega, by omega, (Aft.ok f1 r1) _ jok_rng⟩
      · exact f1.elim
    · simp at l1
    · exact f1.elim
theorem qi_rng2 {a b : Expr} (hg : Gl X "range") (hm : X.mg "range" = none) (ha : QA X W [a, b] fs) (hs : starEach [a, b] X.env = [(false, eval a X.env), (false, eval b X.env)] := by rfl) (hs2 : starEach [b] X.env = [(false, eval b X.env)] := by rfl) (hn : ∀ env S xs S', fs env S = .ok xs S' → xs.length = 2) :
    QI X W tg (.Call (.Name "range" p) [a, b] [] pos) (fiRng fs) := by
  refine (pi_range2 hg hm ha hs hs2).imp fun σ H R h => ?_
  obtain ⟨ρ, S, env, a, q⟩ := h
  refine ⟨ρ, S, env, a, ?_⟩
  cases hf : fs env S with
  | bad => unfold fiRng at q; rw [hf] at q; exact q.elim
  | exc c f x S1 => unfold fiRng at q; rw [hf] at q; exact q
  | ok xs S1 =>
    unfold fiRng at q
    rw [hf] at q
    have q1 := Aft.bind q
    have l1 := hn env S xs S1 hf
    intro ρ1 H1 e1 r1 vs hv
    have f1 := q1 ρ1 H1 e1 r1
    dsimp only at f1
    split at f1
    · simp at l1
    · split at f1
      · rename_i hb
        cases hv with
        | cons r t =>
          cases t with
          | cons r' t =>
            cases t; cases r; cases r'
            unfold M62 at hb
            exact ⟨_, _, rfl, by omega, (Aft.ok f1 r1) _ jok_rng⟩
      · exact f1.elim
    · exact f1.elim
end

/-! ### for -/
open Classical in
noncomputable def forL (gs : List (Nat × O)) (p : Pt) (b : Sv) : List D → Sv
  | [], e, S => if Held gs S then .nx e S else .bad
  | d :: ds, e, S => if Held gs S then (match p d e with
    | some e1 => (match b e1 S with
      | .nx e2 S2 => forL gs p b ds e2 S2
      | .ct e2 S2 => forL gs p b ds e2 S2
      | .bk e2 S2 => .nx e2 S2
      | r => r)
    | none => .bad) else .bad
noncomputable def sFor (fi : Ei) (p : Pt) (b : Sv) : Sv := fun env S => (fi env S).andT env fun a S1 => forL a.2 p b a.1 env S1
section
variable {X : Cx} {W : WX} {tg iter : Expr} {body : List Stmt} {fi : Ei} {p : Pt} {b : Sv} {pos : Pos}
theorem qs_for (hp : PassesOwn (model X.prog X.w) X.A X.env X.xe) (hc : X.calm = true) (hi : QI X W tg iter fi) (hg : QG X tg p) (hb : QSs X W body b) (hs : ∀ x, foldedSetIterable iter X.env x = pure x := by intro _; rfl) : QS X W (.For tg iter body [] pos) (sFor fi p b) := by
  refine (ps_for hp hc hi hg hb hs).imp fun E σ H h => ?_
  obtain ⟨ρ, S, env, a, q⟩ := h
  refine ⟨ρ, S, env, a, (q.andT a).mono fun w S1 ρ1 H1 e1 r1 f1 => fun J jok => ?_⟩
  refine ⟨fun i m σ H => m = w.1.length - i ∧ i ≤ w.1.length ∧ ∃ ρ S env, At X.K X.mg ρ S H env σ ∧ Ext ρ1 S1.length H1 ρ S.length H ∧ AftS X.K X.mg W ρ S.length H (forL w.2 p b (w.1.drop i) env S) E,
    ⟨w.1.length, rfl, Nat.zero_le _, ρ1, S1, env, a.ext e1 r1, .refl, by rw [List.drop_zero]; exact f1⟩, ?_⟩
  rintro i m σ2 H2 ⟨rfl, hi, ρ2, S2, env2, a2, x2, q2⟩
  by_cases hlt : i < w.1.length
  · rw [List.drop_eq_getElem_cons hlt] at q2
    unfold forL at q2
    split at q2
    · rename_i held
      obtain ⟨hgo, _⟩ := jok ρ2 S2 H2 x2 a2.rel held
      obtain ⟨go, yl⟩ := hgo i w.1[i] (List.getElem?_eq_getElem hlt)
      refine .inr ⟨go, fun σ H => i + 1 ≤ w.1.length ∧ ∃ ρ S env, At X.K X.mg ρ S H env σ ∧ Ext ρ1 S1.length H1 ρ S.length H ∧ AftS X.K X.mg W ρ S.length H (forL w.2 p b (w.1.drop (i + 1)) env S) E, fun σ' H' z => ⟨w.1.length - (i + 1), by omega, rfl, z⟩, fun x H' y => ?_⟩
      obtain ⟨x3, r3, rd⟩ := yl x H' y
      split at q2
      · rename_i e3 hp3
        have a3 := a2.ext x3 r3
        refine ⟨ρ2, S2, env2, w.1[i], e3, a3, rd, hp3, fun σ4 a4 => ⟨ρ2, S2, e3, a4, ?_⟩⟩
        have q3 := q2.rebase x3
        cases z : b e3 S2 with
        | nx e5 S5 => rw [z] at q3; exact fun ρ' H' σ' u v => ⟨by omega, ρ', S5, e5, v, (x2.trans x3).trans u, q3.rebase u⟩
        | ct e5 S5 => rw [z] at q3; exact fun ρ' H' σ' u v => ⟨by omega, ρ', S5, e5, v, (x2.trans x3).trans u, q3.rebase u⟩
        | bk e5 S5 => rw [z] at q3; exact q3
        | rt d S5 => rw [z] at q3; exact q3
        | exc c f y e5 S5 => rw [z] at q3; exact q3
        | bad => rw [z] at q3; exact q3
      · exact q2.elim
    · exact q2.elim
  · have e : w.1.drop i = [] := List.drop_eq_nil_of_le (by omega)
    rw [e] at q2
    unfold forL at q2
    split at q2
    · rename_i held
      obtain ⟨_, st⟩ := jok ρ2 S2 H2 x2 a2.rel held
      have ei : i = w.1.length := by omega
      rw [← ei] at st
      exact .inl ⟨st, q2 ρ2 H2 σ2 .refl a2⟩
    · exact q2.elim
end
end EV

set_option maxRecDepth 100000
set_option autoImplicit false
/-! EV: list comprehensions. -/
namespace EV
open PySem PySem.Spec PyProof.Rows L2

def wipeP (env : EnvP) : List Nat → EnvP
  | [] => env
  | v :: vs => (wipeP env vs).set v none
section
variable {K : PySem.W.Frag} {mg : Str → Option Value} {ρ : Nat → Addr} {S : Store} {H : Hp} {env : EnvP} {σ : L2.St}
theorem At.wipe (a : At K mg ρ S H env σ) : ∀ vs : List Nat, At K mg ρ S H (wipeP env vs) (L2.wipe σ vs)
  | [] => a
  | v :: vs => by
    have ih := At.wipe a vs
    refine ⟨ih.rel, ⟨by simpa [wipeP, L2.wipe] using ih.env.len, fun i d h => ?_⟩⟩
    unfold wipeP at h
    by_cases e : v = i
    · subst e
      by_cases hl : v < (wipeP env vs).length
      · rw [List.getElem?_set_self hl] at h
        cases h
      · rw [List.getElem?_eq_none (by simpa using Nat.le_of_not_lt hl)] at h
        cases h
    · rw [List.getElem?_set_ne e] at h
      obtain ⟨w, h1, h2⟩ := ih.env.at_ i d h
      exact ⟨w, by unfold L2.wipe; rw [List.getElem?_set_ne e]; exact h1, h2⟩
theorem wipe_at : ∀ (vs : List Nat) (σ : L2.St) (j : Nat), (L2.wipe σ vs)[j]? = if j ∈ vs then (if j < σ.length then some none else none) else σ[j]?
  | [], σ, j => by simp [L2.wipe]
  | v :: vs, σ, j => by
    unfold L2.wipe
    by_cases e : v = j
    · subst e
      rw [if_pos List.mem_cons_self]
      by_cases hl : v < σ.length
      · rw [if_pos hl, List.getElem?_set_self (by rw [wipe_length]; exact hl)]
      · rw [if_neg hl, List.getElem?_eq_none (by rw [List.length_set, wipe_length]; exact Nat.le_of_not_lt hl)]
    · rw [List.getElem?_set_ne e, wipe_at vs σ j]
      by_cases hj : j ∈ vs
      · rw [if_pos hj, if_pos (List.mem_cons_of_mem _ hj)]
      · rw [if_neg hj, if_neg fun h => (List.mem_cons.mp h).elim (fun z => e z.symm) hj]
theorem wipe_same {ws vs : List Nat} {σ σ2 : L2.St} (hsub : ∀ j ∈ ws, j ∈ vs) (hl : σ2.length = σ.length) (h : ∀ j, j ∉ ws → σ2[j]? = (L2.wipe σ vs)[j]?) : L2.wipe σ2 vs = L2.wipe σ vs := by
  refine List.ext_getElem? fun j => ?_
  rw [wipe_at, wipe_at]
  by_cases hj : j ∈ vs
  · rw [if_pos hj, if_pos hj, hl]
  · rw [if_neg hj, if_neg hj, h j fun z => hj (hsub j z), wipe_at, if_neg hj]
end

/-! ### targets that tell which slots they write -/
section
variable (K : PySem.W.Frag) (mg : Str → Option Value)
def LGw (p : Pt) (ws : List Nat) : TG := fun v σ H Q => ∃ ρ S env d env', At K mg ρ S H env σ ∧ RD K mg ρ S.length H d v ∧ p d env = some env' ∧ ∀ σ', At K mg ρ S H env' σ' → (∀ j, j ∉ ws → σ'[j]? = σ[j]?) → σ'.length = σ.length → Q σ' H
def LGsw (p : Pts) (ws : List Nat) : TGs := fun vs σ H Q => ∃ ρ S env ds env', At K mg ρ S H env σ ∧ RDs K mg ρ S.length H ds vs ∧ p ds env = some env' ∧ ∀ σ', At K mg ρ S H env' σ' → (∀ j, j ∉ ws → σ'[j]? = σ[j]?) → σ'.length = σ.length → Q σ' H
end
abbrev QGw (X : Cx) (tg : Expr) (p : Pt) (ws : List Nat) : Prop := PG X tg (LGw X.K X.mg p ws)
abbrev QGsw (X : Cx) (tgs : List Expr) (p : Pts) (ws : List Nat) : Prop := PGs X tgs (LGsw X.K X.mg p ws)
section
variable {X : Cx} {pos : Pos}
theorem qgw_name {i : Nat} {tg : Expr} (h : PG X tg (gName i)) : QGw X tg (ptName i) [i] := h.imp fun v σ H Q h => by
  obtain ⟨ρ, S, env, d, env', a, r, e, q⟩ := h
  cases e
  refine q _ (a.set i r) (fun j hj => ?_) (by rw [List.length_set])
  exact List.getElem?_set_ne (fun e => hj (by rw [e]; exact List.mem_singleton.mpr rfl))
theorem qgsw_nil : QGsw X [] ptNil [] := pgs_nil.imp fun vs σ H Q h => by
  obtain ⟨ρ, S, env, ds, env', a, r, e, q⟩ := h
  unfold ptNil at e
  split at e
  · cases e
    cases r
    exact ⟨rfl, q σ a (fun _ _ => rfl) rfl⟩
  · cases e
theorem qgsw_cons {e : Expr} {es : List Expr} {p : Pt} {q : Pts} {w1 w2 : List Nat} (h1 : QGw X e p w1) (h2 : QGsw X es q w2) (hs : (assignEach (e :: es) X.env).map (·.2) = assign e X.env :: (assignEach es X.env).map (·.2) := by rfl) : QGsw X (e :: es) (ptCons p q) (w1 ++ w2) := (pgs_cons h1 h2 hs).imp fun vs σ H Q h => by
  obtain ⟨ρ, S, env, ds, env', a, r, e, k⟩ := h
  unfold ptCons at e
  split at e
  · cases r with
    | cons rd rr =>
      rename_i d ds' _ _
      cases hp : p d env with
      | none => rw [hp] at e; cases e
      | some env1 =>
        rw [hp] at e
        refine ⟨_, _, rfl, ρ, S, env, d, env1, a, rd, hp, fun σ1 a1 f1 l1 => ⟨ρ, S, env1, ds', env', a1, rr, e, fun σ2 a2 f2 l2 => k σ2 a2 (fun j hj => ?_) (l2.trans l1)⟩⟩
        exact (f2 j fun z => hj (List.mem_append_right _ z)).trans (f1 j fun z => hj (List.mem_append_left _ z))
  · cases e
theorem qgw_tup {es : List Expr} {k n : Nat} {q : Pts} {ws : List Nat} (hc : X.calm = true) (h : QGsw X es q ws) (hn : (assignEach es X.env).length = n := by rfl) (hst : (assignEach es X.env).findIdx? (·.1) = none := by rfl) : QGw X (.Tuple es k pos) (ptTup n q) ws := (pg_tup hc h hn hst).imp fun v σ H Q h => by
  obtain ⟨ρ, S, env, d, env', a, r, e, k⟩ := h
  unfold ptTup at e
  split at e
  · cases r with
    | tup q t =>
      split at e
      · rename_i hh
        exact ⟨_, _, rfl, q, by rw [← t.length]; exact hh, ρ, S, env, _, env', a, t, e, k⟩
      · cases e
  · cases e
end

/-! ### the comprehension -/
abbrev W0 : WX := fun _ _ _ _ => False
def tYesB : EnvP → Store → R Bool := fun _ S => .ok true S
open Classical in
noncomputable def lcN (gs : List (Nat × O)) (p : Pt) (t : EnvP → Store → R Bool) (f : Ev) (env0 : EnvP) (N : Nat) : List D → Store → R Unit
  | [], S => if Held gs S then .ok () S else .bad
  | d :: ds, S => if Held gs S then (match p d env0 with
    | some e1 => (match t e1 S with
      | .ok k S2 => if k = true then (match f e1 S2 with
          | .ok y S3 => (match S3[N]? with
            | some (.lst acc) => if acc.length < LIM then lcN gs p t f env0 N ds (S3.set N (.lst (acc ++ [y]))) else .bad
            | _ => .bad)
          | _ => .bad) else lcN gs p t f env0 N ds S2
      | _ => .bad)
    | none => .bad) else .bad
noncomputable def fLc (fi : Ei) (p : Pt) (t : EnvP → Store → R Bool) (f : Ev) (ws : List Nat) : Ev := fun env S => (fi env S).bind fun a S1 => (lcN a.2 p t f (wipeP env ws) S1.length a.1 (S1 ++ [.lst []])).bind fun _ S2 => .ok (.ref S1.length) S2
section
variable {X : Cx} {W : WX} {tg iter elt : Expr} {ifs : List Expr} {fi : Ei} {p : Pt} {t : EnvP → Store → R Bool} {f : Ev} {ws vs : List Nat} {pos : Pos}
theorem LE.lc {σ : L2.St} {H : Hp} {Q : VK} (hsub : ∀ j ∈ ws, j ∈ vs) (h : LE X.K X.mg W (fLc fi p t f vs) σ H Q) : tLc (LI X.K X.mg W fi) (LGw X.K X.mg p ws) (LT X.K X.mg W0 t) (LE X.K X.mg W0 f) vs σ H Q := by
  obtain ⟨ρ, S, env, a, q⟩ := h
  refine ⟨ρ, S, env, a, (Aft.bind q).mono fun w S1 ρ1 H1 e1 r1 f1 => fun J jok D hD => ?_⟩
  have xp : Ext ρ1 S1.length H1 (push ρ1 S1.length D) (S1 ++ [O.lst []]).length (upd H1 D (.lst [])) := by rw [List.length_append]; exact .push hD
  have rp : Rel X.K X.mg (push ρ1 S1.length D) (S1 ++ [.lst []]) (upd H1 D (.lst [])) := r1.push hD (.lst upd_same .nil)
  have f2 := (Aft.bind f1).rebase xp
  refine ⟨fun i m H => m = w.1.length - i ∧ i ≤ w.1.length ∧ ∃ ρ S, At X.K X.mg ρ S H env σ ∧ Ext (push ρ1 S1.length D) (S1 ++ [O.lst []]).length (upd H1 D (.lst [])) ρ S.length H ∧
      Aft X.K X.mg ρ S.length H (lcN w.2 p t f (wipeP env vs) S1.length (w.1.drop i) S) (fun _ S' ρ' H' => Aft X.K X.mg ρ' S'.length H' (.ok (.ref S1.length) S') (PV X.K X.mg Q) (WE W σ)) (WE W σ),
    ⟨w.1.length, rfl, Nat.zero_le _, _, _, ((a.ext e1 r1).ext xp rp), .refl, by rw [List.drop_zero]; exact f2⟩, ?_⟩
  rintro i m H2 ⟨rfl, hi, ρ2, S2, a2, x2, q2⟩
  have pD : ∀ {ρ' : Nat → Addr} {N : Nat} {H' : Hp}, Ext (push ρ1 S1.length D) (S1 ++ [O.lst []]).length (upd H1 D (.lst [])) ρ' N H' → ρ' S1.length = D ∧ S1.length < N := fun x => by
    have hl : S1.length < (S1 ++ [O.lst []]).length := by rw [List.length_append]; exact Nat.lt_succ_self _
    exact ⟨(x.map _ hl).trans push_same, Nat.lt_of_lt_of_le hl x.len⟩
  by_cases hlt : i < w.1.length
  · rw [List.drop_eq_getElem_cons hlt] at q2
    unfold lcN at q2
    split at q2
    · rename_i held
      obtain ⟨hgo, _⟩ := jok ρ2 S2 H2 (xp.trans x2) a2.rel held
      obtain ⟨go, yl⟩ := hgo i w.1[i] (List.getElem?_eq_getElem hlt)
      refine .inr ⟨go, fun H => i + 1 ≤ w.1.length ∧ ∃ ρ S, At X.K X.mg ρ S H env σ ∧ Ext (push ρ1 S1.length D) (S1 ++ [O.lst []]).length (upd H1 D (.lst [])) ρ S.length H ∧
        Aft X.K X.mg ρ S.length H (lcN w.2 p t f (wipeP env vs) S1.length (w.1.drop (i + 1)) S) (fun _ S' ρ' H' => Aft X.K X.mg ρ' S'.length H' (.ok (.ref S1.length) S') (PV X.K X.mg Q) (WE W σ)) (WE W σ),
        fun H' z => ⟨w.1.length - (i + 1), by omega, rfl, z⟩, fun x H' y => ?_⟩
      obtain ⟨x3, r3, rd⟩ := yl x H' y
      split at q2
      · rename_i e3 hp3
        have a3 := a2.ext x3 r3
        refine ⟨ρ2, S2, wipeP env vs, w.1[i], e3, a3.wipe vs, rd, hp3, fun σ4 a4 f4 l4 => ⟨wipe_same hsub (by rw [l4, wipe_length]) f4, ρ2, S2, e3, a4, ?_⟩⟩
        have q3 := q2.rebase x3
        cases z : t e3 S2 with
        | ok k S4 =>
          rw [z] at q3
          dsimp only at q3
          intro ρ5 H5 x5 r5
          show if k = true then _ else _
          split at q3
          · rw [if_pos ‹_›]
            refine ⟨ρ5, S4, e3, a4.ext x5 r5, ?_⟩
            have q5 := q3.rebase x5
            cases z2 : f e3 S4 with
            | ok y S6 =>
              rw [z2] at q5
              dsimp only at q5
              intro ρ6 H6 x6 r6 v6 hv6
              split at q5
              · rename_i acc hacc
                split at q5
                · rename_i hlim
                  have xx := ((x2.trans x3).trans x5).trans x6
                  obtain ⟨ed, hlD⟩ := pD xx
                  have o := r6.obj _ _ hacc
                  rw [ed] at o
                  cases o with
                  | @lst ds us _ b1 b2 =>
                    have xw := Ext.write (ho := .lst (us ++ [v6])) r6 hacc rfl
                    rw [ed] at xw
                    have rw6 : Rel X.K X.mg ρ6 (S6.set S1.length (.lst (acc ++ [y]))) (upd H6 D (.lst (us ++ [v6]))) := by
                      have z := r6.write (ho := .lst (us ++ [v6])) (u' := .lst (acc ++ [y])) hacc rfl rfl (.lst upd_same ((b2.append (.cons hv6 .nil)).ext (Ext.write r6 hacc rfl)))
                      rw [ed] at z
                      exact z
                    refine ⟨us, b1, lim_line (by rw [← b2.length]; exact hlim), by omega, ρ6, S6.set S1.length (.lst (acc ++ [y])), ?_, ?_, ?_⟩
                    · refine ((((a2.ext x3 r3).ext x5 r5).ext x6 r6).ext ?_ rw6)
                      rw [List.length_set]
                      exact xw
                    · rw [List.length_set]
                      exact xx.trans xw
                    · rw [List.length_set]
                      exact (q5.rebase x6).rebase xw
                · exact q5.elim
              · exact q5.elim
            | exc c g y S6 => rw [z2] at q5; exact q5.elim
            | bad => rw [z2] at q5; exact q5.elim
          · rw [if_neg ‹_›]
            exact ⟨by omega, ρ5, S4, (a2.ext x3 r3).ext x5 r5, (x2.trans x3).trans x5, q3.rebase x5⟩
        | exc c g y S4 => rw [z] at q3; exact q3.elim
        | bad => rw [z] at q3; exact q3.elim
      · exact q2.elim
    · exact q2.elim
  · have e : w.1.drop i = [] := List.drop_eq_nil_of_le (by omega)
    rw [e] at q2
    unfold lcN at q2
    split at q2
    · rename_i held
      obtain ⟨_, st⟩ := jok ρ2 S2 H2 (xp.trans x2) a2.rel held
      have ei : i = w.1.length := by omega
      rw [← ei] at st
      obtain ⟨ed, hlD⟩ := pD x2
      exact .inl ⟨st, (Aft.ok (Aft.ok q2 a2.rel) a2.rel) _ (.ref hlD ed.symm)⟩
    · exact q2.elim
end
section
variable {X : Cx} {W : WX} {tg iter elt : Expr} {ifs : List Expr} {fi : Ei} {p : Pt} {t : EnvP → Store → R Bool} {f : Ev} {ws : List Nat} {pos : Pos} {scope : Scope} {own : List (Str × Nat)}
theorem _root_.L2.PTs.imp {X : Cx} {e : List Expr} {t t' : TT} (h : PTs X e t) (i : ∀ σ H Q, t' σ H Q → t σ H Q) : PTs X e t' := ⟨fun pins s σ H Q I q => h.run pins s σ H Q I (i σ H Q q)⟩
theorem qts_nil : PTs X [] (LT X.K X.mg W tYesB) := pts_nil.imp fun σ H Q h => by
  obtain ⟨ρ, S, env, a, q⟩ := h
  exact Aft.ok q a.rel
theorem qts_one {c : Expr} (h : QT X W c t) : PTs X [c] (LT X.K X.mg W t) := pts_one h
theorem q_lc (hc : X.calm = true) (hN : X.N.Nodup) (hi : QI X W tg iter fi) (ok : BlkOk X.N X.env.scope scope own)
    (hg : ∀ (s : Shared) (H : Hp) (C : Addr) (cl : List (Str × Addr)) (fp : List Addr), QGw (X.blk s H scope (compEnvC scope cl C X.env) fp) tg p ws)
    (ht : ∀ (s : Shared) (H : Hp) (C : Addr) (cl : List (Str × Addr)) (fp : List Addr), PTs (X.blk s H scope (compEnvC scope cl C X.env) fp) ifs (LT X.K X.mg W0 t))
    (he : ∀ (s : Shared) (H : Hp) (C : Addr) (cl : List (Str × Addr)) (fp : List Addr), QE (X.blk s H scope (compEnvC scope cl C X.env) fp) W0 elt f) (hsub : ∀ j ∈ ws, j ∈ own.map (·.2)) (hs : ∀ x, foldedSetIterable iter X.env x = pure x := by intro _; rfl) :
    QE X W (.ListComp elt [⟨tg, iter, ifs, 0⟩] scope pos) (fLc fi p t f (own.map (·.2))) :=
  (pe_lc hc hN hi ok hg ht he hs).imp fun _ _ _ h => LE.lc hsub h
theorem qs_setLc {i : Nat} {y : Str} {py spos : Pos} (hc : X.calm = true) (hN : X.N.Nodup) (hy : X.N[i]? = some y) (hyl : X.env.scope.names.lookup y = some .local)
    (hsw : swapsWith (.ListComp elt [⟨tg, iter, ifs, 0⟩] scope pos) (some (.Name y py)) spos.line X.env = pure true) (hi : QI X W tg iter fi) (ok : BlkOk X.N X.env.scope scope own)
    (hg : ∀ (s : Shared) (H : Hp) (C : Addr) (cl : List (Str × Addr)) (fp : List Addr), QGw (X.blk s H scope (compEnvC scope cl C X.env) fp) tg p ws)
    (ht : ∀ (s : Shared) (H : Hp) (C : Addr) (cl : List (Str × Addr)) (fp : List Addr), PTs (X.blk s H scope (compEnvC scope cl C X.env) fp) ifs (LT X.K X.mg W0 t))
    (he : ∀ (s : Shared) (H : Hp) (C : Addr) (cl : List (Str × Addr)) (fp : List Addr), QE (X.blk s H scope (compEnvC scope cl C X.env) fp) W0 elt f) (hsub : ∀ j ∈ ws, j ∈ own.map (·.2)) (hs : ∀ x, foldedSetIterable iter X.env x = pure x := by intro _; rfl) :
    QS X W (.Assign [.Name y py] (.ListComp elt [⟨tg, iter, ifs, 0⟩] scope pos) spos) (sSet i (fLc fi p t f (own.map (·.2)))) :=
  qs_set ((ps_setLc hc hN hy hyl hsw hi ok hg ht he hs).imp fun D σ H h => LE.lc hsub h)
end
end EV

set_option maxRecDepth 100000
set_option autoImplicit false
/-! EV: sorted. -/
namespace EV
open PySem PySem.Spec PyProof.Rows L2

theorem dats_map : ∀ xs : List D, D.dats xs = xs.map D.dat
  | [] => rfl
  | x :: xs => by rw [D.dats, dats_map xs]; rfl
theorem okds_all : ∀ {xs : List D}, D.okds xs = true → ∀ d ∈ xs, D.okd d = true
  | x :: xs, h, d, hd => by
    rw [D.okds, Bool.and_eq_true] at h
    rcases List.mem_cons.mp hd with e | hd
    · rw [e]; exact h.1
    · exact okds_all h.2 d hd
noncomputable def sortDs (ds : List D) : List D := ds.mergeSort (PySem.W.dataLe false D.dat)
/-- what can be sorted -/
structure SOk (ds : List D) : Prop where
  ok : D.okds ds = true
  alike : PySem.W.AllAlike (ds.map D.dat)
  able : PySem.W.Sortable (ds.map D.dat)
  deep : ∀ d ∈ ds, (D.dat d).depth ≤ 60
  few : ds.length < LIM
section
variable {X : Cx} {pins : List (Addr × Obj)} {σ : L2.St} {H H' : Hp} {s : Shared} {mg : Str → Option Value} {ρ : Nat → Addr} {N : Nat}
theorem each_of {ds : List D} {ws : List V} {vs : List Value} (r : RDs X.K mg ρ N H ds ws) (rv : Vals ws vs) : PySem.W.EachIs (fun (v : Value) d => ∃ w, RelV w v ∧ RD X.K mg ρ N H d w) vs ds := by
  induction r using RDs.rec (motive_1 := fun _ _ _ => True) generalizing vs with
  | nil => cases rv; exact .nil
  | cons a b _ ih =>
    cases rv with
    | cons p q => exact .cons ⟨_, p, a⟩ (ih q)
  | _ => trivial
theorem of_each {ds : List D} {vs : List Value} (e : PySem.W.EachIs (fun (v : Value) d => ∃ w, RelV w v ∧ RD X.K mg ρ N H d w) vs ds) : ∃ ws, Vals ws vs ∧ RDs X.K mg ρ N H ds ws := by
  induction e with
  | nil => exact ⟨[], .nil, .nil⟩
  | cons h _ ih =>
    obtain ⟨w, r, rd⟩ := h
    obtain ⟨ws, q, t⟩ := ih
    exact ⟨w :: ws, .cons r q, .cons rd t⟩
/-- many new objects, some of them tracked -/
theorem _root_.L2.Inv.grow {h' : Heap} {t' : Nat} (I : Inv X pins σ H s) (k : ∀ b u, s.heap.get? b = some u → h'.get? b = some u) (old : ∀ b, b < s.heap.objs.size → H' b = H b) (sup : ∀ b o, H b = some o → H' b = some o)
    (new : ∀ b o, s.heap.objs.size ≤ b → H' b = some o → ObjOk X.prog X.w H' h' b o) : Inv X pins σ H' { s with heap := h', toks := t' } := by
  have lt : ∀ {b : Addr} {u : Obj}, s.heap.get? b = some u → b < s.heap.objs.size := fun e => Heap.lt_size e
  refine I.un (h' := h') (t' := t') ⟨fun b u e _ _ _ => k b u e, fun b u e _ _ _ => ⟨u.slots, k b u e⟩, fun b u e n _ => (old b (lt e)).trans n, fun b u e _ => ⟨u, k b u e⟩, fun b xs e => sup _ _ e, fun b o u e => sup _ _ e, fun b ps e => ⟨#[], by rw [sup _ _ e]; simp⟩⟩ fun b o e => ?_
  by_cases hb : b < s.heap.objs.size
  · rw [old b hb] at e
    exact (I.hok b o e).stay (fun c u _ q => k c u q) (fun c q => sup _ _ q) fun c xs q => sup _ _ q
  · exact new b o (Nat.le_of_not_lt hb) e
/-- list.sort of a new list of data, as sorted's last part -/
theorem sort_tail {ds : List D} {ws : List V} {vs : List Value} {Q : VK} (I : Inv X pins σ H s) (hg : X.A.units + 64 < cLine) (r : RDs X.K mg ρ N H ds ws) (rv : Vals ws vs) (ok : SOk ds)
    (q : ∀ us p, H p = none → RDs X.K mg ρ N H (sortDs ds) us → Q (.ref p) (upd H p (.lst us))) {E : Value → Shared → Prop} :
    wpAny (model X.prog X.w) X.A.in1.in1 (Builtin.«list.sort» ⟨[.ref s.heap.objs.size], []⟩) (fun f s' => f = .done (.ret .none) ∧ EP X pins σ Q (.ref s.heap.objs.size) s') E { s with heap := s.heap.push (seqObj "list" vs.toArray 0) } := by
  have hoL : (s.heap.push (seqObj "list" vs.toArray 0)).get? s.heap.objs.size = some (seqObj "list" vs.toArray 0) := Heap.get?_push_size _ rfl
  have e := each_of r rv
  have hl : vs.length = ds.length := e.length
  have keepS : ∀ b o, s.heap.get? b = some o → (PySem.W.sortingHeap (s.heap.push (seqObj "list" vs.toArray 0)) s.heap.objs.size vs).get? b = some o := fun b o h =>
    PySem.W.sortingHeap_old (Nat.ne_of_lt (Heap.lt_size h)) (Heap.get?_push_of_some _ h)
  have er0 : ∀ {vs : List Value} {ds : List D}, PySem.W.EachIs (fun (v : Value) d => ∃ w, RelV w v ∧ RD X.K mg ρ N H d w) vs ds → D.okds ds = true → PySem.W.EachIs (fun v d => ∃ as, Reads (PySem.W.sortingHeap (s.heap.push (seqObj "list" vs.toArray 0)) s.heap.objs.size vs) v (D.dat d) as) vs ds → True := fun _ _ _ => trivial
  have er : PySem.W.EachIs (fun v d => ∃ as, Reads (PySem.W.sortingHeap (s.heap.push (seqObj "list" vs.toArray 0)) s.heap.objs.size vs) v (D.dat d) as) vs ds := by
    have all : ∀ {vs' : List Value} {ds' : List D}, PySem.W.EachIs (fun (v : Value) d => ∃ w, RelV w v ∧ RD X.K mg ρ N H d w) vs' ds' → (∀ d ∈ ds', D.okd d = true) →
        PySem.W.EachIs (fun v d => ∃ as, Reads (PySem.W.sortingHeap (s.heap.push (seqObj "list" vs.toArray 0)) s.heap.objs.size vs) v (D.dat d) as) vs' ds' := by
      intro vs' ds' e
      induction e with
      | nil => intro _; exact .nil
      | cons h _ ih =>
        intro hk
        obtain ⟨w, rw', rd⟩ := h
        obtain ⟨as, rr⟩ := Dp.reads I _ w _ (rd.dp (hk _ List.mem_cons_self)).1 rw'
        exact .cons ⟨as, PyProof.Rows.Reads.keeps keepS rr⟩ (ih fun d hd => hk d (List.mem_cons_of_mem _ hd))
    exact all e (okds_all ok.ok)
  have hline : vs.length ≤ sizeLine := by rw [hl]; exact Nat.le_of_lt (lim_line ok.few)
  refine PySem.W.list_sort_vals (s := { s with heap := s.heap.push (seqObj "list" vs.toArray 0) }) (κ := PySem.W.dataKind (PySem.W.sortingHeap (s.heap.push (seqObj "list" vs.toArray 0)) s.heap.objs.size vs) (ds.map D.dat)) hoL ?_ hline ⟨rfl, ?_⟩
  · refine PySem.W.SortsAt.data (s := { s with heap := PySem.W.sortingHeap (s.heap.push (seqObj "list" vs.toArray 0)) s.heap.objs.size vs }) ?_ ok.alike ok.able fun d hd => ?_
    · exact PySem.W.each_map (R := fun v d => ∃ as, Reads (PySem.W.sortingHeap (s.heap.push (seqObj "list" vs.toArray 0)) s.heap.objs.size vs) v d as) D.dat er
    · obtain ⟨x, hx, rfl⟩ := List.mem_map.mp hd
      have := ok.deep x hx
      show X.A.units + 1 + 1 + _ < cLine
      omega
  · have eo : PySem.W.EachIs (fun (v : Value) d => ∃ w, RelV w v ∧ RD X.K mg ρ N H d w) (PySem.W.sortVals (PySem.W.dataKind (PySem.W.sortingHeap (s.heap.push (seqObj "list" vs.toArray 0)) s.heap.objs.size vs) (ds.map D.dat)) false vs vs) (sortDs ds) := PySem.W.sortVals_data false e er ok.alike
    generalize PySem.W.sortVals (PySem.W.dataKind (PySem.W.sortingHeap (s.heap.push (seqObj "list" vs.toArray 0)) s.heap.objs.size vs) (ds.map D.dat)) false vs vs = out at eo ⊢
    obtain ⟨us, ru, rdu⟩ := of_each eo
    obtain ⟨e', he'⟩ := PyProof.Rows.sortedHeap_at (vs := vs) (out := out.toArray) hoL
    have hlen : us.length ≤ sizeLine := by
      rw [← rdu.length]
      unfold sortDs
      rw [List.length_mergeSort, ← hl]
      exact hline
    refine ⟨.ref s.heap.objs.size, upd H s.heap.objs.size (.lst us), I.laid (t' := s.toks) (fun b u e => ?_) (Nat.le_refl _) (show ObjOk X.prog X.w _ _ _ (.lst us) from ⟨hlen, out, e', ru, he'⟩), rfl, q us _ (I.hok.fresh (Nat.le_refl _)) rdu⟩
    have hb : b < s.heap.objs.size := Heap.lt_size e
    rw [PyProof.Rows.sortedHeap_old (Nat.ne_of_lt hb) (by rw [size_push']; exact Nat.lt_succ_of_lt hb)]
    exact Heap.get?_push_of_some _ e
/-- sorted(x), x gathered into the values vs -/
theorem sorted_gather {ds : List D} {u : Value} {Q : VK} (hu : X.A.units + 64 < cLine)
    (g : ∀ (R : List Value → Shared → Prop), (∀ (s1 : Shared) (H1 : Hp) (ws : List V) (vs : List Value), Inv X pins σ H1 s1 → RDs X.K mg ρ N H1 ds ws → Vals ws vs → (∀ us p, H1 p = none → RDs X.K mg ρ N H1 (sortDs ds) us → Q (.ref p) (upd H1 p (.lst us))) → R vs s1) → ∀ E, wpAny (model X.prog X.w) X.A.in1 (collect u) R E s)
    (ok : SOk ds) : wpAny (model X.prog X.w) X.A (call (.builtin "sorted") [u]) (EP X pins σ Q) X.xe s := by
  refine Calls.call_function_entry PyProof.Rows.kind_sorted PyProof.Rows.plain_sorted PyProof.Rows.entry_sorted (PyProof.Rows.args_sorted1 _) ?_
  unfold Builtin.«sorted»
  refine wpAny_bind (m := checkCount "sorted" 1 1 _) (wpAny_pure ?_)
  refine wpAny_bind (g _ (fun s1 H1 ws vs I1 r rv q => ?_) _)
  have hl : vs.length ≤ sizeLine := by
    have e := (each_of r rv).length
    rw [e]
    exact Nat.le_of_lt (lim_line ok.few)
  refine wpAny_bind (wpAny_newList ?_ hl)
  have hoL : (s1.heap.push (seqObj "list" vs.toArray 0)).get? s1.heap.objs.size = some (seqObj "list" vs.toArray 0) := Heap.get?_push_size _ rfl
  show wpAny _ _ _ _ _ { s1 with heap := s1.heap.push (seqObj "list" vs.toArray 0) }
  refine wpAny_bind (wpAny_holding (wpAny_call_entry PyProof.Rows.slot_list_sort ⟨_, hoL, rfl⟩ PyProof.Rows.entry_list_sort ?_ (PyProof.Rows.args_list_sort _)))
  refine wpAny_mono (sort_tail I1 hu r rv ok q) (fun f s' hf => ?_) fun _ _ e => e
  obtain ⟨rfl, hq⟩ := hf
  exact ⟨_, rfl, wpAny_pure ⟨_, rfl, hq⟩⟩
end
end EV

set_option maxRecDepth 100000
set_option autoImplicit false
/-! EV: sorted of a list, a dict, a dict's items; stores to places; new dicts; get; repr. -/
namespace EV
open PySem PySem.Spec PyProof.Rows L2

section
variable (K : PySem.W.Frag) (mg : Str → Option Value)
def srtSrc (xs : List D) (S : Store) : Option (List D) := match xs with
  | [.tup ds] => some ds
  | [.ref n] => match S[n]? with
    | some (.lst ds) => some ds
    | some (.dic kds) => some (kds.map (·.1))
    | _ => none
  | _ => none
open Classical in
noncomputable def cSorted (xs : List D) (S : Store) : R D := match srtSrc xs S with
  | some ds => if SOk ds then .ok (.ref S.length) (S ++ [.lst (sortDs ds)]) else .bad
  | none => .bad
def rSrt : List V → Hp → VK → Prop := fun vs H Q => ∃ ρ S xs ds, Rel K mg ρ S H ∧ RDs K mg ρ S.length H xs vs ∧ srtSrc xs S = some ds ∧ SOk ds ∧ ∀ (us : List V) (p : Addr), H p = none → RDs K mg ρ S.length H (sortDs ds) us → Q (.ref p) (upd H p (.lst us))
end
theorem p_sorted {K : PySem.W.Frag} {mg : Str → Option Value} : PrC K mg (rSrt K mg) cSorted := by
  intro ρ S H xs vs Q E rel rx f
  unfold cSorted at f
  split at f
  · rename_i ds hd
    split at f
    · rename_i ok
      exact ⟨ρ, S, xs, ds, rel, rx, hd, ok, fun us p hp r => aft_lst rel r f hp⟩
    · exact f.elim
  · exact f.elim
/-- a tuple is gathered -/
theorem collect_tupleD {prog : Program} {w : World} {A : Around} {E : Value → Shared → Prop} {s : Shared} {l : Addr} {vs : List Value} {Q : List Value → Shared → Prop} (hl : IsTup s.heap l vs.toArray)
    (h : Q vs { s with heap := (s.heap.push (seqObj "list" #[] 0)).update s.heap.objs.size (Obj.mapSeq (· ++ vs.toArray)) }) (hsz : vs.length ≤ sizeLine) :
    wpAny (model prog w) A (collect (.ref l)) Q E s := by
  obtain ⟨o, ho, hc, n, hd⟩ := id hl
  unfold collect
  refine wpAny_bind (wpAny_runValue (codeAny_builtin entry_proto_collect' ?_))
  show wpAny _ _ (do again (.builtin "list.__iadd__" ⟨[← newList [], .ref l], []⟩)) _ _ s
  refine wpAny_bind (wpAny_newList (wpAny_pure ⟨Code.quiet_builtin _ (by decide +kernel), codeAny_builtin entry_list_iadd' ?_⟩))
  show wpAny _ _ (Builtin.List.listExtendWith (.ref s.heap.objs.size) (.ref l) (.ref s.heap.objs.size)) _ _ { s with heap := s.heap.push (seqObj "list" #[] 0) }
  unfold Builtin.List.listExtendWith
  have ho' : (s.heap.push (seqObj "list" #[] 0)).get? l = some o := Heap.get?_push_of_some _ ho
  refine wpAny_bind (wpAny_typeOf (T := "tuple") ⟨o, ho', hc⟩ ?_)
  have ht : (Value.type "tuple" == Value.type "tuple") = true := by rfl
  rw [if_pos (by rw [ht]; simp)]
  refine wpAny_bind (listItems_at ho' hd ?_)
  refine wpAny_bind (listItems_at (xs := #[]) (n := 0) (Heap.get?_push_size _ rfl) rfl ?_)
  rw [if_neg (by simp)]
  refine wpAny_bind (listUpdate_at (xs := #[]) (n := 0) (Heap.get?_push_size _ rfl) rfl ?_ (Nat.zero_le _) (by show (#[] ++ vs.toArray).size ≤ sizeLine + 1; simp only [Array.size_append, List.size_toArray, List.length_nil]; omega))
  refine wpAny_pure ?_
  show wpAny (model prog w) A (do
      let o ← load s.heap.objs.size
      match o.data with
      | .seq xs _ => pure xs.toList
      | _ => unsupported "internal:collect") Q E { s with heap := (s.heap.push (seqObj "list" #[] 0)).update s.heap.objs.size (Obj.mapSeq (· ++ vs.toArray)) }
  refine wpAny_bind (wpAny_load (get?_update_seq (Heap.get?_push_size _ rfl) _) ?_)
  show wpAny _ _ (pure ((#[] : Array Value) ++ vs.toArray).toList) Q E _
  rw [show ((#[] : Array Value) ++ vs.toArray).toList = vs by simp]
  exact wpAny_pure h
section
variable {X : Cx}
theorem o_sorted (hc : X.calm = true) (hu : X.A.units + 64 < cLine) : CallR X (.builtin "sorted") (rSrt X.K X.mg) := by
  intro pins s σ H vs us Q I r h
  obtain ⟨ρ, S, xs, ds, rel, rx, hd, ok, q⟩ := h
  unfold srtSrc at hd
  split at hd
  · rename_i ds'
    cases hd
    cases rx with
    | cons r1 t =>
      cases t
      cases r1 with
      | @tup _ a ws sq h2 =>
        obtain ⟨u, rfl, ru⟩ := vals1 r
        obtain rfl : u = Value.ref a := ru
        refine sorted_gather (mg := X.mg) (ρ := ρ) (N := S.length) hu (fun R hR E => ?_) ok
        obtain ⟨its, rv, hl, hz⟩ := I.tuple sq
        refine collect_tupleD hl (hR { s with heap := _ } H ws its (I.kept (t' := s.toks) fun b o e => ?_) h2 rv q) (by rw [← rv.length]; exact hz)
        have hb : b < s.heap.objs.size := Heap.lt_size e
        rw [Heap.get?_update_ne _ _ _ _ (Nat.ne_of_lt hb)]
        exact Heap.get?_push_of_some _ e
  · rename_i n
    cases rx with
    | cons r1 t =>
      cases t
      split at hd
      · rename_i ds' hs
        cases hd
        obtain ⟨e, ws, h1, h2⟩ := ref_lst rel r1 hs
        subst e
        obtain ⟨u, rfl, ru⟩ := vals1 r
        obtain rfl : u = Value.ref (ρ n) := ru
        refine sorted_gather (mg := X.mg) (ρ := ρ) (N := S.length) hu (fun R hR E => ?_) ok
        obtain ⟨its, rv, hl, hz⟩ := I.list (.inl (.inl h1))
        refine PyProof.Rows.collect_list hl.isList (hR { s with heap := _ } H ws its (I.kept (t' := s.toks) fun b o e => ?_) h2 rv q) (by rw [← rv.length]; exact hz)
        have hb : b < s.heap.objs.size := Heap.lt_size e
        rw [Heap.get?_update_ne _ _ _ _ (Nat.ne_of_lt hb)]
        exact Heap.get?_push_of_some _ e
      · rename_i kds hs
        cases hd
        obtain ⟨e, kvs, h1, h2⟩ := ref_dic rel r1 hs
        subst e
        obtain ⟨u, rfl, ru⟩ := vals1 r
        obtain rfl : u = Value.ref (ρ n) := ru
        refine sorted_gather (mg := X.mg) (ρ := ρ) (N := S.length) hu (fun R hR E => ?_) ok
        obtain ⟨z, lo, vs, rk, hdo⟩ := (show ObjOk X.prog X.w H s.heap (ρ n) (.dK kvs) from I.hok _ _ h1)
        obtain ⟨ep, hat⟩ := hdo.dictAt
        have hl : kvs.length = vs.length := Paired.length rk
        refine PySem.W.kdu_collect (PySem.W.kdl_dict (knd := mixKind X.prog X.w) (kvs := vs) (ep := ep) lo) (I.ok.hd hc) hat (by rw [← hl]; exact z) fun h' tk acc hk hacc => ?_
        refine hR _ H (kvs.map fun kv => kV kv.1) acc.toList (I.kept hk) h2.keys ?_ q
        have el : acc.toList.length = acc.size := by simp
        refine vals_of_at (by rw [List.length_map, el, hacc.1, hl]) fun j x w g1 g2 => ?_
        obtain ⟨k, y, hky, hi⟩ := hacc.2 j w (by rw [← Array.getElem?_toList]; exact g2)
        have e1 : (kvs.map (·.1))[j]? = some k := by
          rw [KV.keys rk, List.getElem?_map, hky] <;> rfl
        have e2 : (kvs.map fun kv => kV kv.1)[j]? = some (kV k) := by
          have e3 : (kvs.map fun kv => kV kv.1) = (kvs.map (·.1)).map kV := by rw [List.map_map] <;> rfl
          rw [e3, List.getElem?_map, e1] <;> rfl
        rw [e2] at g1
        cases g1
        rcases keyIs_shape (show keyIs k w = true from hi) with ⟨i, t, ek, ev⟩ | ⟨z, t, ek, ev⟩
        · subst ek; subst ev; exact ⟨t, rfl⟩
        · subst ek; subst ev; exact ⟨t, rfl⟩
      · cases hd
  · cases hd
end

/-! ### sorted(d.items()) -/
def pairsD (kds : List (D × D)) : List D := kds.map fun p => .tup [p.1, p.2]
open Classical in
noncomputable def fSortItems (fa : Ev) : Ev := fun env S => (fa env S).bind fun x S1 => match dicOf S1 x with
  | some kds => if SOk (pairsD kds) then .ok (.ref S1.length) (S1 ++ [.lst (sortDs (pairsD kds))]) else .bad
  | none => .bad
theorem rkv_pairs {K : PySem.W.Frag} {mg : Str → Option Value} {ρ : Nat → Addr} {N : Nat} {H H' : Hp} (sup : Ext ρ N H ρ N H') : ∀ {kds : List (D × D)} {kvs : List (Key × V)} {as : List Addr}, RKV K mg ρ N H kds kvs → Paired (fun (t : Addr) (q : Key × V) => H' t = some (.tup [kV q.1, q.2])) as kvs → RDs K mg ρ N H' (pairsD kds) (as.map V.ref)
  | _, _, _, .nil, .nil => .nil
  | _, _, _, .int r t, .cons p q => .cons (.tup (.of p) (.cons (.int _) (.cons (r.ext sup) .nil))) (rkv_pairs sup t q)
  | _, _, _, .str r t, .cons p q => .cons (.tup (.of p) (.cons (.str _) (.cons (r.ext sup) .nil))) (rkv_pairs sup t q)
section
variable {X : Cx} {W : WX} {e : Expr} {fa : Ev} {p pos apos cpos : Pos}
/-- the items of a dict gathered: new tuples -/
theorem items_grow {pins : List (Addr × Obj)} {σ : L2.St} {H : Hp} {s : Shared} {h' : Heap} {tk : Nat} {kvs : List (Key × V)} {vs : List (Key × Value)} {as : List Addr} {lo : Addr} (I : Inv X pins σ H s) (kv : KV kvs vs) (hlo : s.heap.objs.size ≤ lo)
    (hk : ∀ b o, s.heap.get? b = some o → h'.get? b = some o) (hl : as.length = vs.length) (hG : PySem.W.KdxG (mixKind X.prog X.w) vs lo h' as) :
    ∃ H' : Hp, (∀ b o, H b = some o → H' b = some o) ∧ (∀ b, b ∉ as → H' b = H b) ∧ Paired (fun (t : Addr) (q : Key × V) => H' t = some (.tup [kV q.1, q.2])) as kvs ∧ Inv X pins σ H' { s with heap := h', toks := tk } := by
  have lk : kvs.length = vs.length := Paired.length kv
  have nd : as.Nodup := List.Pairwise.imp (fun {a b} (h : a < b) => Nat.ne_of_lt h) hG.rise
  have new : ∀ t ∈ as, H t = none := fun t ht => I.hok.fresh (Nat.le_trans hlo (Nat.le_of_lt (hG.above t ht)))
  have off : ∀ b, b ∉ as → LiI.putT H as kvs b = H b := fun b hb => LiI.putT_off as kvs H hb
  have sup : ∀ b o, H b = some o → LiI.putT H as kvs b = some o := fun b o h => by
    rw [off b fun z => by rw [new b z] at h; cases h]
    exact h
  have atP := LiI.putT_at as kvs H (by omega) nd
  refine ⟨LiI.putT H as kvs, sup, off, ?_, I.grow hk (fun b hb => off b fun z => absurd (hG.above b z) (Nat.not_lt.mpr (Nat.le_trans (Nat.le_of_lt hb) hlo))) sup fun b o hb e => ?_⟩
  · exact atP
  · by_cases hm : b ∈ as
    · obtain ⟨j, hj⟩ := List.mem_iff_getElem?.mp hm
      obtain ⟨key, k, x, h1, h2, h3⟩ := hG.pairs j b hj
      have pj : ∃ q, kvs[j]? = some q ∧ LiI.putT H as kvs b = some (.tup [kV q.1, q.2]) := by
        have go : ∀ {as : List Addr} {kvs : List (Key × V)} {j : Nat}, Paired (fun (t : Addr) (q : Key × V) => LiI.putT H as kvs t = LiI.putT H as kvs t) as kvs → True := fun _ => trivial
        have : ∀ {l : List Addr} {r : List (Key × V)} {G : Hp} {j : Nat}, Paired (fun (t : Addr) (q : Key × V) => G t = some (.tup [kV q.1, q.2])) l r → l[j]? = some b → ∃ q, r[j]? = some q ∧ G b = some (.tup [kV q.1, q.2]) := by
          intro l r G j hp
          induction hp generalizing j with
          | nil => intro h; simp at h
          | cons a b' ih =>
            intro h
            cases j with
            | zero => simp at h; subst h; exact ⟨_, rfl, a⟩
            | succ j => simpa using ih (by simpa using h)
        exact this atP hj
      obtain ⟨q, hq, hb2⟩ := pj
      rw [hb2] at e
      cases e
      have kvj : q.1 = k ∧ RelV q.2 x := by
        have : ∀ {l : List (Key × V)} {r : List (Key × Value)} {j : Nat}, KV l r → l[j]? = some q → r[j]? = some (k, x) → q.1 = k ∧ RelV q.2 x := by
          intro l r j hp
          induction hp generalizing j with
          | nil => intro h; simp at h
          | cons a b' ih =>
            intro h h'
            cases j with
            | zero => simp at h h'; subst h; subst h'; exact a
            | succ j => exact ih (by simpa using h) (by simpa using h')
        exact this kv hq h1
      refine ⟨by show 2 ≤ sizeLine; decide, [key, x], .cons ?_ (.cons kvj.2 .nil), ⟨_, h3, rfl, _, rfl⟩⟩
      rw [kvj.1]
      rcases keyIs_shape (show keyIs k key = true from h2) with ⟨i, t, ek, ev⟩ | ⟨z, t, ek, ev⟩
      · subst ek; subst ev; exact ⟨t, rfl⟩
      · subst ek; subst ev; exact ⟨t, rfl⟩
    · rw [off b hm] at e
      rw [I.hok.fresh hb] at e
      cases e
theorem q_sortItems (hc : X.calm = true) (hu : X.A.units + 64 < cLine) (ha : QE X W e fa) (hg : Gl X "sorted") (hm : X.mg "sorted" = none) (hv : bootBuiltins "sorted" = some (.builtin "sorted")) (hbase : attributeBase e "items" X.env (eval e X.env) = eval e X.env := by rfl) (hline : (apos.endLine == cpos.line) = true := by rfl)
    (hs : starEach [.Call (.Attribute e "items" apos) [] [] cpos] X.env = (false, eval (.Call (.Attribute e "items" apos) [] [] cpos) X.env) :: starEach [] X.env := by rfl) (hpl : (backTo pos (starEach [] X.env)).any (·.1) = false := by rfl) :
    QE X W (.Call (.Name "sorted" p) [.Call (.Attribute e "items" apos) [] [] cpos] [] pos) (fSortItems fa) := by
  refine ⟨fun pins s σ H Q I h => ?_⟩
  obtain ⟨ρ, S, env, a, q⟩ := h
  refine wpAny_Call_Name_kw (ld_blt I hg hm hv ?_)
  refine Calls.callWith_builtin hpl (Calls.evalArgs_plain ?_)
  show wpAny _ _ (spliced ((false, eval (.Call (.Attribute e "items" apos) [] [] cpos) X.env) :: backTo pos (starEach [] X.env))) _ _ s
  refine Calls.spliced_cons ?_
  have hfa : LE X.K X.mg W fa σ H fun x H1 => ∃ d kvs, x = .ref d ∧ H1 d = some (.dK kvs) ∧ ∃ ρ S kds, Rel X.K X.mg ρ S H1 ∧ RKV X.K X.mg ρ S.length H1 kds kvs ∧ SOk (pairsD kds) ∧ Aft X.K X.mg ρ S.length H1 (.ok (.ref S.length) (S ++ [.lst (sortDs (pairsD kds))])) (PV X.K X.mg Q) (WE W σ) := by
    refine ⟨ρ, S, env, a, (Aft.bind q).mono fun x S1 ρ1 H1 e1 r1 f1 => fun v hvv => ?_⟩
    split at f1
    · rename_i kds hd
      obtain ⟨n, rfl, hsn⟩ := dicOf_ref hd
      split at f1
      · rename_i ok
        obtain ⟨e, kvs, h1, h2⟩ := ref_dic r1 hvv hsn
        subst e
        exact ⟨_, kvs, rfl, h1, ρ1, S1, kds, r1, h2, ok, f1⟩
      · exact f1.elim
    · exact f1.elim
  refine wpAny_Call_method (T := "dict") (id := "dict.items") hbase rfl hline F.plainAttrs_dict F.slot_dict_items F.type_dict_items (thn (ha.run pins s σ H _ I hfa) fun u s1 ⟨x, H1, I1, rx, d, kvs, ex, hd, ρ1, S1, kds, rel1, rkv, ok, f1⟩ => ?_)
  subst ex
  obtain rfl : u = Value.ref d := rx
  obtain ⟨hz, hs0, vs, kv, hdo⟩ := I1.hok d _ hd
  obtain ⟨ep, hat⟩ := hdo.dictAt
  have lk : kvs.length = vs.length := Paired.length kv
  have I2 : Inv X pins σ H1 { s1 with heap := s1.heap.push { cls := .type "dict_items", data := .fields #[.ref d] } } := I1.kept (t' := s1.toks) fun b ob q => Heap.get?_push_of_some _ q
  refine ⟨hdo.typeIs, hdo.mapOf.noDict, ?_⟩
  show wpAny _ _ (callWith cpos (.builtin "dict.items") [.ref d] [] []) _ X.xe s1
  refine method_meetsIn F.slot_dict_items F.entry_dict_items rfl (PySem.evalArgs_none ⟨rfl, hdo.typeIs, F.args_dict_items_1 _, _, meets_dict_items (mixKind X.prog X.w) d hs0, ⟨vs, hdo⟩, ?_⟩)
  refine Calls.spliced_nil ?_
  have hview : (s1.heap.push { cls := .type "dict_items", data := .fields #[.ref d] }).IsItemsView s1.heap.objs.size d := ⟨_, Heap.get?_push_size _ rfl, rfl, rfl⟩
  -- the sort, over the gathered pairs
  refine Calls.call_function_entry PyProof.Rows.kind_sorted PyProof.Rows.plain_sorted PyProof.Rows.entry_sorted (PyProof.Rows.args_sorted1 _) ?_
  unfold Builtin.«sorted»
  refine wpAny_bind (m := checkCount "sorted" 1 1 _) (wpAny_pure ?_)
  refine wpAny_bind (PySem.W.kdx_collect (knd := mixKind X.prog X.w) (kvs := vs) (ep := ep) (A := X.A.in1) (I1.ok.hd hc) hview (hat.push _) (by omega) fun h' tk as hk hl hG => ?_)
  obtain ⟨H', sup, off, prs, J⟩ := items_grow (tk := tk) I2 kv (Nat.le_refl _) hk hl hG
  have ext : Ext ρ1 S1.length H1 ρ1 S1.length H' := ⟨Nat.le_refl _, fun _ _ => rfl, fun b o _ h => sup b o h⟩
  have rel' : Rel X.K X.mg ρ1 S1 H' := ⟨fun n u h => (rel1.obj n u h).stay ext fun m => by
    obtain ⟨w, h1, _⟩ := (rel1.obj n u h).at_ m
    rw [sup _ _ h1, h1], rel1.inj⟩
  have rds := rkv_pairs ext rkv prs
  have rv : Vals (as.map V.ref) (as.map Value.ref) := by
    clear hl hG prs rds off
    induction as with
    | nil => exact .nil
    | cons t r ih => exact .cons rfl ih
  have hline : (as.map Value.ref).length ≤ sizeLine := by rw [List.length_map, hl, ← lk]; exact hz
  refine wpAny_bind (wpAny_newList ?_ hline)
  have hoL : (h'.push (seqObj "list" (as.map Value.ref).toArray 0)).get? h'.objs.size = some (seqObj "list" (as.map Value.ref).toArray 0) := Heap.get?_push_size _ rfl
  refine wpAny_bind (wpAny_holding (wpAny_call_entry PyProof.Rows.slot_list_sort ⟨_, hoL, rfl⟩ PyProof.Rows.entry_list_sort ?_ (PyProof.Rows.args_list_sort _)))
  refine wpAny_mono (sort_tail (Q := Q) J hu rds rv ok fun us p hp r => aft_lst rel' r (f1.rebase ext) hp) (fun f s' hf => ?_) fun _ _ e => e
  obtain ⟨rfl, hq⟩ := hf
  exact ⟨_, rfl, wpAny_pure ⟨_, rfl, hq⟩⟩
end
end EV

set_option maxRecDepth 100000
set_option autoImplicit false
/-! EV: stores to places; new dicts; get; repr; a try that runs through. -/
namespace EV
open PySem PySem.Spec PyProof.Rows L2

/-! ### o[i] = v -/
def dSetIx (o i v : D) (S : Store) : R Unit := match o with
  | .ref n => match S[n]? with
    | some (.dic kds) => if D.skey i = true ∧ kds.length < LIM then .ok () (S.set n (.dic (dPut kds i v))) else .bad
    | some (.lst ds) => match i with
      | .int k => match ixN ds.length k with
        | some j => .ok () (S.set n (.lst (ds.set j v)))
        | none => .bad
      | _ => .bad
    | _ => .bad
  | _ => .bad
def sSetIx (fe fo fi : Ev) : Sv := fun env S => (fe env S).andT env fun v S1 => (fo env S1).andT env fun o S2 => (fi env S2).andT env fun i S3 => (dSetIx o i v S3).andT env fun _ S4 => .nx env S4
theorem _root_.L2.PSet.or {X : Cx} {t t' : TSet} (h : PSet X t) (h' : PSet X t') : PSet X (fun o i v H Q => t o i v H Q ∨ t' o i v H Q) := fun pins s σ H o i v ov iv u Q I ro ri rv q =>
  q.elim (h pins s σ H o i v ov iv u Q I ro ri rv) (h' pins s σ H o i v ov iv u Q I ro ri rv)
section
variable {X : Cx} {W : WX} {e o i : Expr} {fe fo fi : Ev} {pos p2 : Pos}
theorem qs_setIx (hu : X.A.units + 1 < cLine) (he : QE X W e fe) (ho : QE X W o fo) (hi : QE X W i fi) (hs : swapsWithSole [.Subscript o i p2] e pos.line X.env = pure false := by rfl) (hw : swappedStores [.Subscript o i p2] e X.env = pure none := by rfl)
    (h1 : (assignEach [.Subscript o i p2] X.env).map (·.2) = [assign (.Subscript o i p2) X.env] := by rfl)
    (ha : ∀ v, assign (.Subscript o i p2) X.env v = (do
      let ov ← holding [v] (eval o X.env)
      let iv ← holding [v, ov] (eval i X.env)
      standAt p2
      holding [v, ov, iv] (setItem ov iv v)
      release [v, ov, iv] []) := by intro _; rfl) : QS X W (.Assign [.Subscript o i p2] e pos) (sSetIx fe fo fi) := by
  refine (ps_asg he (pg_sub ho hi (set_list.or (set_dict hu)) ha) hs hw h1).imp fun E σ H h => ?_
  obtain ⟨ρ, S, env, a, q⟩ := h
  refine ⟨ρ, S, env, a, (q.andT a).mono fun d S1 ρ1 H1 e1 r1 f1 => fun v hv => ?_⟩
  have a1 := a.ext e1 r1
  refine ⟨ρ1, S1, env, a1, (f1.andT a1).mono fun od S2 ρ2 H2 e2 r2 f2 => fun ov hov => ?_⟩
  have a2 := a1.ext e2 r2
  refine ⟨ρ2, S2, env, a2, (f2.andT a2).mono fun id S3 ρ3 H3 e3 r3 f3 => fun iv hiv => ?_⟩
  have a3 := a2.ext e3 r3
  have hv3 := hv.ext (e2.trans e3)
  have hov3 := hov.ext e3
  have g := f3.andT a3
  unfold dSetIx at g
  split at g
  · rename_i n
    split at g
    · rename_i kds hs
      split at g
      · rename_i hk
        obtain ⟨k, hk1⟩ := skey_of hk.1
        obtain ⟨e, kvs, h1, h2⟩ := ref_dic r3 hov3 hs
        subst e
        have ev := keyOf_rd hiv hk1
        subst ev
        have x := Ext.write (ho := .dK (putK kvs k v)) r3 hs rfl
        have rw3 : Rel X.K X.mg ρ3 (S3.set n (.dic (dPut kds id d))) (upd H3 (ρ3 n) (.dK (putK kvs k v))) := r3.write hs rfl rfl (.dK upd_same ((h2.put hk1 hv3).ext x))
        have x' : Ext ρ3 S3.length H3 ρ3 (S3.set n (.dic (dPut kds id d))).length (upd H3 (ρ3 n) (.dK (putK kvs k v))) := by rw [List.length_set]; exact x
        exact .inr ⟨_, _, rfl, DPut.k h1 (lim_line (by rw [← h2.length]; exact hk.2)), g ρ3 _ x' rw3 ρ3 _ σ .refl (a3.ext x' rw3)⟩
      · exact g.elim
    · rename_i ds hs
      split at g
      · split at g
        · rename_i k j hj
          obtain ⟨e, ws, h1, h2⟩ := ref_lst r3 hov3 hs
          subst e
          cases hiv
          have x := Ext.write (ho := .lst (ws.set j v)) r3 hs rfl
          have rw3 : Rel X.K X.mg ρ3 (S3.set n (.lst (ds.set j d))) (upd H3 (ρ3 n) (.lst (ws.set j v))) := r3.write hs rfl rfl (.lst upd_same ((h2.set hv3 j).ext x))
          have x' : Ext ρ3 S3.length H3 ρ3 (S3.set n (.lst (ds.set j d))).length (upd H3 (ρ3 n) (.lst (ws.set j v))) := by rw [List.length_set]; exact x
          exact .inl ⟨_, _, _, j, rfl, rfl, h1, by rw [← h2.length]; exact hj, g ρ3 _ x' rw3 ρ3 _ σ .refl (a3.ext x' rw3)⟩
        · exact g.elim
      · exact g.elim
    · exact g.elim
  · exact g.elim
end

/-! ### {}, d.get(k, x) -/
def fDNew : Ev := fun _ S => .ok (.ref S.length) (S ++ [.dic []])
section
variable {X : Cx} {W : WX} {o e f : Expr} {fo fe ff : Ev} {pos apos cpos : Pos}
theorem q_dnew : QE X W (.Dict [] [] pos) fDNew := pe_dnewK.imp fun σ H Q h => by
  obtain ⟨ρ, S, env, a, q⟩ := h
  intro p hp
  have e : Ext ρ S.length H (push ρ S.length p) (S.length + 1) (upd H p (.dK [])) := .push hp
  exact q (push ρ S.length p) _ (by rw [List.length_append]; exact e) (a.rel.push hp (.dK upd_same .nil)) _ (.ref (by rw [List.length_append]; exact Nat.lt_succ_self _) push_same.symm)
def fGet2 (fo fe ff : Ev) : Ev := fun env S => (fo env S).bind fun o S1 => match dicOf S1 o with
  | some _ => (fe env S1).bind fun k S2 => (ff env S2).bind fun x S3 => match dicOf S3 o with
    | some kds => if D.skey k then .ok ((dGet kds k).getD x) S3 else .bad
    | none => .bad
  | none => .bad
theorem q_get2 (hu : X.A.units + 1 < cLine) (ho : QE X W o fo) (he : QE X W e fe) (hf : QE X W f ff) (m : M2 X o "get" apos e f cpos) : QE X W (.Call (.Attribute o "get" apos) [e, f] [] cpos) (fGet2 fo fe ff) := by
  refine (pe_dget2 hu ho he hf m).imp fun σ H Q h => ?_
  obtain ⟨ρ, S, env, a, q⟩ := h
  refine ⟨ρ, S, env, a, (Aft.bind q).mono fun od S1 ρ1 H1 e1 r1 f1 => fun ov hov => ?_⟩
  split at f1
  · rename_i kds0 hd0
    obtain ⟨n, rfl, hs0⟩ := dicOf_ref hd0
    obtain ⟨e0, kvs0, g1, g2⟩ := ref_dic r1 hov hs0
    subst e0
    refine ⟨_, rfl, .inl ⟨_, .inl g1⟩, ρ1, S1, env, a.ext e1 r1, (Aft.bind f1).mono fun kd S2 ρ2 H2 e2 r2 f2 => fun kv hkv => ⟨ρ2, S2, env, (a.ext e1 r1).ext e2 r2, (Aft.bind f2).mono fun xd S3 ρ3 H3 e3 r3 f3 => fun xv hxv => ?_⟩⟩
    have hov3 := hov.ext (e2.trans e3)
    split at f3
    · rename_i kds hd
      obtain ⟨n', en, hs⟩ := dicOf_ref hd
      cases en
      obtain ⟨e', kvs, h1, h2⟩ := ref_dic r3 hov3 hs
      split at f3
      · rename_i hk
        obtain ⟨k, hk1⟩ := skey_of hk
        have ev := keyOf_rd (hkv.ext e3) hk1
        subst ev
        have an : ρ1 n = ρ3 n := V.ref.inj e'
        refine ⟨_, DGet.k (by rw [an]; exact h1), ?_⟩
        have hg := h2.get hk1
        cases z : dGet kds kd with
        | none =>
          rw [hg.2 z]
          rw [z] at f3
          exact (Aft.ok f3 r3) _ hxv
        | some d =>
          obtain ⟨v, g3, g4⟩ := hg.1 d z
          rw [g3]
          rw [z] at f3
          exact (Aft.ok f3 r3) _ g4
      · exact f3.elim
    · exact f3.elim
  · exact f1.elim
end

/-! ### repr -/
def cRepr (xs : List D) (S : Store) : R D := match xs with
  | [x] => if D.okd x = true ∧ (D.dat x).showable = true ∧ (D.dat x).shown.length ≤ 16777216 ∧ (D.dat x).depth ≤ 60 then .ok (.str (D.dat x).shown) S else .bad
  | _ => .bad
def rRepr (K : PySem.W.Frag) (mg : Str → Option Value) : List V → Hp → VK → Prop := fun vs H Q => ∃ ρ N x v, vs = [v] ∧ RD K mg ρ N H x v ∧ D.okd x = true ∧ (D.dat x).showable = true ∧ (D.dat x).shown.length ≤ 16777216 ∧ (D.dat x).depth ≤ 60 ∧ Q (.str (D.dat x).shown) H
theorem p_repr {K : PySem.W.Frag} {mg : Str → Option Value} : PrC K mg (rRepr K mg) cRepr := by
  intro ρ S H xs vs Q E rel rx f
  unfold cRepr at f
  split at f
  · split at f
    · rename_i hh
      cases rx with
      | cons r t =>
        cases t
        exact ⟨ρ, S.length, _, _, rfl, r, hh.1, hh.2.1, hh.2.2.1, hh.2.2.2, (Aft.ok f rel) _ (.str _)⟩
    · exact f.elim
  · exact f.elim
theorem o_repr {X : Cx} (hg : X.A.guards = some []) (hu : X.A.units + 64 < cLine) : CallR X (.builtin "repr") (rRepr X.K X.mg) := by
  intro pins s σ H vs us Q I r h
  obtain ⟨ρ, N, x, v, rfl, rx, h1, h2, h3, h4, q⟩ := h
  obtain ⟨u, rfl, ru⟩ := vals1 r
  obtain ⟨as, rr⟩ := Dp.reads I _ v u (rx.dp h1).1 ru
  have nd : (D.dat x).hasDict = false := PyData.hasDict_of_canLay _ (rx.dp h1).2
  have sz : (D.dat x).shown.length ≤ sizeLine := Nat.le_trans h3 (by decide)
  have fin : ∀ h' w tk, (∀ b o, s.heap.get? b = some o → h'.get? b = some o) → EP X pins σ Q (.str (D.dat x).shown w) { s with heap := h', toks := tk } := fun h' w tk hk => ⟨.str _, H, I.kept hk, ⟨_, rfl⟩, q⟩
  cases rx with
  | non =>
    cases ru
    simp only [D.dat, PyData.shown] at q
    exact PySem.P.repr_of_none ⟨.str _, H, I.tok _, ⟨_, rfl⟩, q⟩
  | bl b =>
    cases ru
    simp only [D.dat, PyData.shown] at q
    exact PySem.P.repr_of_bool ⟨.str _, H, I.tok _, ⟨_, rfl⟩, q⟩
  | int i =>
    obtain ⟨t, rfl⟩ := ru
    simp only [D.dat, PyData.shown] at q
    exact PySem.P.repr_of_int (by simpa [D.dat, PyData.showable] using h2) ⟨.str _, H, I.tok _, ⟨_, rfl⟩, q⟩
  | str y =>
    obtain ⟨t, rfl⟩ := ru
    simp only [D.dat, PyData.shown] at q sz
    exact PySem.P.repr_of_str ⟨.str _, H, I.tok _, ⟨_, rfl⟩, q⟩ sz
  | tup sq t =>
    cases ru
    exact PySem.repr_of_reads' rr h2 (fun z => by rw [nd] at z; cases z) hg (by omega) (fun _ _ e => e) fin sz
  | ref _ _ => cases h1
  | gl _ => cases h1
  | ty _ => cases h1

/-! ### a try that runs through -/
def sNoX (b : Sv) : Sv := fun env S => match b env S with
  | .exc _ _ _ _ _ => .bad
  | r => r
theorem qs_thru {X : Cx} {W : WX} {body : List Stmt} {h₀ : ExceptHandler} {hs : List ExceptHandler} {b : Sv} {pos : Pos} (hb : QSs X.nox W0 body b) : QS X W (.Try body (h₀ :: hs) [] [] pos) (sNoX b) := by
  refine (ps_try_thru0 hb).imp fun E σ H h => ?_
  obtain ⟨ρ, S, env, a, q⟩ := h
  refine ⟨ρ, S, env, a, ?_⟩
  unfold sNoX at q
  cases z : b env S with
  | exc c f x e S' => rw [z] at q; exact q.elim
  | nx e S' => rw [z] at q; exact q
  | rt d S' => rw [z] at q; exact q
  | bk e S' => rw [z] at q; exact q
  | ct e S' => rw [z] at q; exact q
  | bad => rw [z] at q; exact q
end EV

set_option maxRecDepth 100000
set_option autoImplicit false
/-! EV: dict displays with int and text keys. -/
namespace EV
open PySem PySem.Spec PyProof.Rows L2

def evPairs : List (Ev × Ev) → EnvP → Store → R (List (D × D))
  | [], _, S => .ok [] S
  | (fk, fv) :: r, env, S => (fk env S).bind fun k S1 => (fv env S1).bind fun v S2 => (evPairs r env S2).bind fun ps S3 => .ok ((k, v) :: ps) S3
def dMerge (kds : List (D × D)) (ps : List (D × D)) : List (D × D) := ps.foldl (fun acc p => dPut acc p.1 p.2) kds
def fDisp (fps : List (Ev × Ev)) : Ev := fun env S => (evPairs fps env (S ++ [.dic []])).bind fun ps S2 => match S2[S.length]? with
  | some (.dic []) => if (ps.all fun p => D.skey p.1) = true then .ok (.ref S.length) (S2.set S.length (.dic (dMerge [] ps))) else .bad
  | _ => .bad
section
variable (K : PySem.W.Frag) (mg : Str → Option Value)
inductive RPs (ρ : Nat → Addr) (N : Nat) (H : Hp) : List (D × D) → List (V × V) → Prop
  | nil : RPs ρ N H [] []
  | cons {k d : D} {x v : V} {ps : List (D × D)} {qs : List (V × V)} : RD K mg ρ N H k x → RD K mg ρ N H d v → RPs ρ N H ps qs → RPs ρ N H ((k, d) :: ps) ((x, v) :: qs)
end
section
variable {K : PySem.W.Frag} {mg : Str → Option Value}
theorem RPs.keys {ρ : Nat → Addr} {N : Nat} {H : Hp} : ∀ {ps : List (D × D)} {qs : List (V × V)}, RPs K mg ρ N H ps qs → (ps.all fun p => D.skey p.1) = true →
    ∃ kvs : List (Key × V), qs = kvs.map (fun kv => (kV kv.1, kv.2)) ∧ ps.length = kvs.length ∧ ∀ kds kvs0, RKV K mg ρ N H kds kvs0 → RKV K mg ρ N H (dMerge kds ps) (mergeK kvs0 kvs)
  | _, _, .nil, _ => ⟨[], rfl, rfl, fun _ _ h => h⟩
  | _, _, .cons (k := k) (d := d) rk rv t, h => by
    rw [List.all_cons, Bool.and_eq_true] at h
    obtain ⟨kvs, e, l, m⟩ := RPs.keys t h.2
    obtain ⟨key, hk⟩ := skey_of h.1
    have ev := keyOf_rd rk hk
    subst ev
    refine ⟨(key, _) :: kvs, by rw [e]; rfl, by rw [List.length_cons, List.length_cons, l], fun kds kvs0 r => ?_⟩
    exact m _ _ (r.put hk rv)
theorem tPairs_of {W : WX} {env : EnvP} {σ : L2.St} : ∀ {fps : List (Ev × Ev)} {ρ : Nat → Addr} {S : Store} {H : Hp} {Q : List (V × V) → Hp → Prop}, At K mg ρ S H env σ →
    Aft K mg ρ S.length H (evPairs fps env S) (fun ps S' ρ' H' => ∀ qs, RPs K mg ρ' S'.length H' ps qs → Q qs H') (WE W σ) → tPairs (fps.map fun q => (LE K mg W q.1, LE K mg W q.2)) σ H Q
  | [], ρ, S, H, Q, a, h => (Aft.ok h a.rel) [] .nil
  | (fk, fv) :: r, ρ, S, H, Q, a, h => by
    refine ⟨ρ, S, env, a, (Aft.bind h).mono fun k S1 ρ1 H1 e1 r1 f1 => fun x hx => ⟨ρ1, S1, env, a.ext e1 r1, (Aft.bind f1).mono fun d S2 ρ2 H2 e2 r2 f2 => fun v hv => ?_⟩⟩
    refine tPairs_of ((a.ext e1 r1).ext e2 r2) ((Aft.bind f2).mono fun ps S3 ρ3 H3 e3 r3 f3 => fun qs hq => ?_)
    exact (Aft.ok f3 r3) _ (.cons (hx.ext (e2.trans e3)) (hv.ext e3) hq)
end
section
variable {X : Cx} {W : WX} {pos : Pos} {keys : List (Option Expr)} {values : List Expr} {fps : List (Ev × Ev)}
theorem q_disp (h : PPs X pos keys values (fps.map fun q => (LE X.K X.mg W q.1, LE X.K X.mg W q.2))) (hall : keys.all (·.isSome) = true := by rfl) (hl : keys.length = values.length := by rfl) (h0 : keys ≠ [] := by exact fun z => nomatch z) (h15 : keys.length ≤ 15 := by decide) (hf : fps.length ≤ 15 := by decide) :
    QE X W (.Dict keys values pos) (fDisp fps) := by
  refine (pe_disp h hall hl h0 h15).imp fun σ H Q q => ?_
  obtain ⟨ρ, S, env, a, q⟩ := q
  intro p hp
  have e : Ext ρ S.length H (push ρ S.length p) (S ++ [O.dic []]).length (upd H p (.dK [])) := by rw [List.length_append]; exact .push hp
  have rl : Rel X.K X.mg (push ρ S.length p) (S ++ [.dic []]) (upd H p (.dK [])) := a.rel.push hp (.dK upd_same .nil)
  have q1 := (Aft.bind q).rebase e
  have lenE : ∀ {fps : List (Ev × Ev)} {S S' : Store} {ps : List (D × D)}, evPairs fps env S = .ok ps S' → ps.length = fps.length := by
    intro fps
    induction fps with
    | nil => intro S S' ps h; cases h; rfl
    | cons c r ih =>
      intro S S' ps h
      unfold evPairs at h
      cases h1 : c.1 env S with
      | ok k S1 =>
        rw [h1] at h
        simp only [R.bind] at h
        cases h2 : c.2 env S1 with
        | ok v S2 =>
          rw [h2] at h
          simp only [R.bind] at h
          cases h3 : evPairs r env S2 with
          | ok ps' S3 =>
            rw [h3] at h
            simp only [R.ok.injEq] at h
            obtain ⟨h, _⟩ := h
            rw [← h, List.length_cons, List.length_cons, ih h3]
          | _ => rw [h3] at h; cases h
        | _ => rw [h2] at h; cases h
      | _ => rw [h1] at h; cases h
  refine tPairs_of (a.ext e rl) ?_
  cases hev : evPairs fps env (S ++ [.dic []]) with
  | bad => rw [hev] at q1; exact q1
  | exc c f x S1 => rw [hev] at q1; exact q1
  | ok ps S2 =>
    rw [hev] at q1
    intro ρ2 H2 e2 r2 qs hq
    have f2 := q1 ρ2 H2 e2 r2
    dsimp only at f2
    split at f2
    · rename_i hs
      split at f2
      · rename_i hk
        have hlp : S.length < (S ++ [O.dic []]).length := by rw [List.length_append]; exact Nat.lt_succ_self _
        have ep : ρ2 S.length = p := (e2.map _ hlp).trans push_same
        have o := r2.obj _ _ hs
        rw [ep] at o
        obtain ⟨kvs, eq, lk, m⟩ := hq.keys hk
        have x := Ext.write (ho := .dK (mergeK [] kvs)) r2 hs rfl
        have rw2 : Rel X.K X.mg ρ2 (S2.set S.length (.dic (dMerge [] ps))) (upd H2 (ρ2 S.length) (.dK (mergeK [] kvs))) := r2.write hs rfl rfl (.dK upd_same ((m _ _ .nil).ext x))
        rw [ep] at x rw2
        cases o with
        | dK b1 b2 =>
          cases b2
          refine ⟨b1, kvs, eq, by rw [← lk, lenE hev]; exact hf, f2 ρ2 _ (by rw [List.length_set]; exact x) rw2 _ (.ref (by rw [List.length_set]; exact (List.getElem?_eq_some_iff.mp hs).1) ep.symm)⟩
      · exact f2.elim
    · exact f2.elim
end
end EV

set_option maxRecDepth 100000
set_option autoImplicit false
/-! EV: range downward. -/
namespace EV
open PySem PySem.Spec PyProof.Rows L2
section
variable {X : Cx} {W : WX} {tg : Expr} {fs : EnvP → Store → R (List D)} {pos p : Pos}
def fiDown (fs : EnvP → Store → R (List D)) : Ei := fun env S => (fs env S).bind fun xs S1 => match xs with
  | [.int i, .int j, .int c] => if c = -1 ∧ -M62 ≤ i ∧ i < M62 ∧ -M62 ≤ j ∧ j < M62 then .ok (rngD i (i - j).toNat (-1), []) S1 else .bad
  | _ => .bad
theorem jok_rngC {ρ0 : Nat → Addr} {N0 : Nat} {H0 : Hp} {lo c : Int} {n : Nat} : JOk X.K X.mg ρ0 N0 H0 (rngD lo n c, []) (Itc lo c n) := by
  intro ρ S H e rel held
  refine ⟨fun i d hd => ?_, by rw [rngD_len]; exact Nat.le_refl n⟩
  obtain ⟨hi, rfl⟩ := rngD_at hd
  refine ⟨hi, fun x H' y => ?_⟩
  obtain ⟨rfl, rfl⟩ := y
  exact ⟨.refl, rel, .int _⟩
theorem qi_down {a b c : Expr} (hg : Gl X "range") (hm : X.mg "range" = none) (ha : QA X W [a, b, c] fs)
    (hs : starEach [a, b, c] X.env = (false, eval a X.env) :: starEach [b, c] X.env := by rfl) (hpl : (backTo pos (starEach [b, c] X.env)).any (·.1) = false := by rfl) :
    QI X W tg (.Call (.Name "range" p) [a, b, c] [] pos) (fiDown fs) := by
  refine (pi_range3 hg hm ha hs hpl).imp fun σ H R h => ?_
  obtain ⟨ρ, S, env, a, q⟩ := h
  refine ⟨ρ, S, env, a, (Aft.bind q).mono fun xs S1 ρ1 H1 e1 r1 f1 => fun vs hv => ?_⟩
  split at f1
  · split at f1
    · rename_i hb
      cases hv with
      | cons r t =>
        cases t with
        | cons r' t =>
          cases t with
          | cons r'' t =>
            cases t; cases r; cases r'; cases r''
            obtain ⟨rfl, hb⟩ := hb
            unfold M62 at hb
            exact ⟨_, _, _, _, rfl, RgC.neg (by omega) (by omega) (by omega) (by omega), (Aft.ok f1 r1) _ jok_rngC⟩
    · exact f1.elim
  · exact f1.elim
/-- a, b, c = x, y, z of plain local names -/
def sPar3 (i j l : Nat) (fs : EnvP → Store → R (List D)) : Sv := fun env S => (fs env S).andT env fun ds S1 => match ds with
  | [d, e, f] => .nx (((env.set i (some d)).set j (some e)).set l (some f)) S1
  | _ => .bad
theorem qs_par3 {st : Stmt} {i j l : Nat} {fs : EnvP → Store → R (List D)} (h : PS X st (tPar3 i j l (LA X.K X.mg W fs))) : QS X W st (sPar3 i j l fs) := h.imp fun E σ H h => by
  obtain ⟨ρ, S, env, a, q⟩ := h
  refine ⟨ρ, S, env, a, (q.andT a).mono fun x S1 ρ1 H1 e1 r1 f1 => fun vs hv => ?_⟩
  split at f1
  · cases hv with
    | cons r1' t =>
      cases t with
      | cons r2' t =>
        cases t with
        | cons r3' t =>
          cases t
          exact ⟨_, _, _, rfl, f1 ρ1 H1 _ .refl ((((a.ext e1 r1).set i r1').set j r2').set l r3')⟩
  · exact f1.elim
end
end EV

set_option maxRecDepth 100000
set_option autoImplicit false
/-! EV: a law row's end. -/
namespace EV
open PySem PySem.Spec PyProof.Rows L2

def scrS (ns : List Int) : Store := [.scr (ns.map D.int)]
/-- the law's def at the heap behind the top: the plain run gives True -/
theorem law_callG {P : Program} {w : World} {K : PySem.W.Frag} {mg mb : Str → Option Value} {k : Nat} {fa a : Addr} {fd : FuncData} {x : Str} {F : FnSem} {st : Shared} {vs : List Value} {ns : List Int}
    (inK : K.In st.heap) (nsG : st.heap.Ns mainGlobals mg) (nsB : st.heap.Ns builtinsNs mb) (bb : ∀ x : Str, x ≠ "__name__" → mb x = bootBuiltins x) (lim : st.heap.NoLimit) (gens : st.gens = #[])
    (ha : st.heap.get? a = some { cls := .type "list", data := .seq vs.toArray }) (hints : IntsAre vs ns) (small : ns.length ≤ sizeLine) (room : Room k callerA)
    (G : ∀ base : Heap, K.In base → base.Ns mainGlobals mg → FnG P w K mg base k fa fd [x] F) (bnd : ∀ (s : Shared) (u : Value), BindsTo s fd ⟨[u], []⟩ [(x, u)])
    (plain : ∃ S', F [.ref 0] (scrS ns) = .ok (.bl true) S') :
    codeAny (model P w) callerA (.call (.ref fa) ⟨[.ref a], []⟩) (fun r s' => r = .ok (.ret (.bool true)) ∧ OldK st.heap s'.heap ∧ s'.os = st.os ∧ AllBare s'.gens) st := by
  have valsA := vals_ints hints
  have lenA := hints.length
  obtain ⟨S', hF⟩ := plain
  have main : ∀ H : Hp, Only H → ((∃ o, H a = some (.frz o (.lst (ns.map V.int)))) ∨ KList K a (ns.map V.int)) → HOk P w H st.heap → (∀ b, H b ≠ none → b = a) → (H a ≠ none → K.lookup a = none) →
      codeAny (model P w) callerA (.call (.ref fa) ⟨[.ref a], []⟩) (fun r s' => r = .ok (.ret (.bool true)) ∧ OldK st.heap s'.heap ∧ s'.os = st.os ∧ AllBare s'.gens) st := by
    intro H only scr hok sole kfree
    have low : ∀ {b : Addr} {o : Obj}, st.heap.get? b = some o → H b = none → (hidT st.heap H).get? b = some o := fun e n => hidT_get e n
    have clear : ∀ b, b ≠ a → H b = none := fun b hb => by
      cases q : H b with
      | none => rfl
      | some u => exact absurd (sole b (by rw [q]; exact fun z => nomatch z)) hb
    have dictNot : ∀ {b : Addr} {o : Obj} {es : Array DictEntry} {ep : Nat}, st.heap.get? b = some o → o.data = .dict es ep → H b = none := fun {b o es ep} e d => clear b fun z => by
      rw [z, ha] at e
      cases e
      have d2 : Data.seq vs.toArray _ = Data.dict es ep := d
      cases d2
    have nsL : ∀ {b : Addr} {m : Str → Option Value}, st.heap.Ns b m → (hidT st.heap H).Ns b m := fun {b m} ⟨o, es, ep, e, d, r⟩ => ⟨o, es, ep, low e (dictNot e d), d, r⟩
    have inL : K.In (hidT st.heap H) := fun b o e => low (inK b o e) (by
      cases q : H b with
      | none => rfl
      | some u =>
        have eb := sole b (by rw [q]; exact fun z => nomatch z)
        rw [eb] at e q
        rw [kfree (by rw [q]; exact fun z => nomatch z)] at e
        cases e)
    have md : Mod K mg (hidT st.heap H) := ⟨inL, nsL nsG, ⟨mb, nsL nsB, bb⟩, let ⟨mc, h1, h2⟩ := lim; ⟨mc, nsL h1, h2⟩⟩
    have env0 : Env0 P w K mg (hidT st.heap H) callerA [] st H := ⟨rfl, md, fun b o e => of_hidT e, Nat.le_of_eq (hidT_size _ _), trivial, fun b hb => (nomatch (show b ∈ ([] : List Addr) from hb)), hok, .of_eq gens⟩
    have sp : spOf K mg 1 F [.ref a] H (fun v _ => v = .bl true) (fun _ _ _ => False) := by
      have rel : Rel K mg (fun _ => a) (scrS ns) H := by
        refine ⟨fun n o h => ?_, fun n m o u h1 _ m1 _ _ => ?_⟩
        · cases n with
          | zero => cases h; exact .scr scr (.ints ns)
          | succ n => cases h
        · cases n with
          | zero => cases h1; cases m1
          | succ n => cases h1
      refine ⟨rfl, fun _ => a, scrS ns, [.ref 0], rel, .cons (.ref (Nat.lt_succ_self 0) rfl) .nil, ?_⟩
      rw [hF]
      intro ρ' H' _ _ v hv
      cases hv
      rfl
    refine codeAny_mono ((G _ inL (nsL nsG)).run callerA [] st H ⟨[.ref a], []⟩ [.ref a] [.ref a] _ _ room rfl env0 (bnd st (.ref a)) (.cons rfl .nil) sp) ?_
    rintro (e | fl) s' h
    · obtain ⟨_, _, _, _, _, _, _, _, _, _, _, _, z⟩ := h
      exact z.elim
    · match fl, h with
      | .next, h => exact False.elim h
      | .brk, h => exact False.elim h
      | .cont, h => exact False.elim h
      | .ret u, ⟨v, H', os, bare, un, hok', r, q⟩ =>
        have q2 : v = .bl true := q
        subst q2
        obtain rfl : u = Value.bool true := r
        refine ⟨rfl, OldK.of_keep fun b o e => ?_, os, bare⟩
        cases z : H b with
        | none => exact un.keep b o e z (fun y => (nomatch (show b ∈ ([] : List Addr) from y))) (by simp)
        | some u =>
          rcases only b with y | ⟨ob, xs, y⟩
          · rw [z] at y
            cases y
          · obtain ⟨e1, _⟩ := hok b _ y
            obtain ⟨e2, _⟩ := hok' b _ (un.frzs b ob _ y)
            rw [e] at e1
            cases e1
            exact e2
  cases kl : K.lookup a with
  | some o =>
    have e := inK a o kl
    rw [ha] at e
    cases e
    exact main (fun _ => none) (fun _ => .inl rfl) (.inr fun H => .inr ⟨_, vs.toArray, _, kl, rfl, rfl, rfl, by rw [List.size_toArray, lenA]; exact small, by simpa using valsA⟩)
      (fun b u z => (nomatch (show (none : Option HO) = some u from z))) (fun b z => absurd rfl z) fun z => absurd rfl z
  | none =>
    have at_a : (fun b => if b = a then some (HO.frz { cls := .type "list", data := .seq vs.toArray } (.lst (ns.map V.int))) else none) a = some (HO.frz { cls := .type "list", data := .seq vs.toArray } (.lst (ns.map V.int))) := if_pos rfl
    refine main (fun b => if b = a then some (.frz { cls := .type "list", data := .seq vs.toArray } (.lst (ns.map V.int))) else none) (fun b => ?_) (.inl ⟨_, at_a⟩) (fun b u z => ?_) (fun b z => ?_) fun _ => kl
    all_goals by_cases hb : b = a
    · exact .inr ⟨_, _, if_pos hb⟩
    · exact .inl (if_neg hb)
    · subst hb
      rw [at_a] at z
      cases z
      exact ⟨ha, by rw [List.length_map]; exact small, vs, _, valsA, ha⟩
    · have z' : (none : Option HO) = some u := (if_neg hb).symm.trans z
      cases z'
    · exact hb
    · exact absurd (if_neg hb) z
/-- a law row, from its def's plain function -/
theorem walk_ofG {l : PySem.W.OpenLaw} {n k : Nat} {q : Program} {loose : List Str} {XP : (Str → Option Value) → Heap → Prop} {YP : World → Heap → Prop} {d : DefRec} {x : Str} {F : FnSem}
    (hn : l.most = some n) (hn2 : n ≤ sizeLine) (hdf : d.params.defaults = []) (hr : Room k callerA)
    (T : ∀ (w : World) (mg : Str → Option Value) (fa : Addr) (h : Heap), YP w h → h.Ns mainGlobals mg → mg d.name = some (.ref fa) →
      ∃ (K : PySem.W.Frag) (fd : FuncData), K.In h ∧ (∀ (s : Shared) (u : Value), BindsTo s fd ⟨[u], []⟩ [(x, u)]) ∧ ∀ base : Heap, K.In base → base.Ns mainGlobals mg → FnG l.prog w K mg base k fa fd [x] F)
    (plain : ∀ ns : List Int, ns.length ≤ n → ∃ S', F [.ref 0] (scrS ns) = .ok (.bl true) S') :
    PySem.W.WalkO q loose XP YP l.row.toRowW d [] (fun f vs => PySem.call f vs) := by
  refine Att.attach_call hn hdf fun w s₀ s₁ mg mb fa o pm cd doc a vs ns G Y ho hd hcd hmg hobj hints hlen hg => ?_
  obtain ⟨K, fd, KX, hb, hF⟩ := T w mg fa _ Y G.T.g hmg
  exact law_callG KX G.T.g G.T.b G.T.builtins G.T.nolimit hg hobj hints (Nat.le_trans hlen hn2) hr hF hb (plain ns hlen)
end EV

set_option maxRecDepth 100000
set_option autoImplicit false
/-! EV: reading the plain functions off by simp. -/
namespace EV
open PySem L2
/-- numbers of a handsome size -/
def Bd (i : Int) : Prop := i.natAbs < 2 ^ 3000
theorem Bd.sm {i : Int} (h : Bd i) : Sm i := by
  unfold Sm
  by_cases h0 : i.natAbs = 0
  · rw [h0]; decide
  · have := (Nat.log2_lt h0 (k := 3000)).mpr h
    omega
theorem Bd.log {i : Int} (h : Bd i) : i.natAbs.log2 < 9000 := by
  by_cases h0 : i.natAbs = 0
  · rw [h0]; decide
  · have := (Nat.log2_lt h0 (k := 3000)).mpr h
    omega
theorem Bd.of {i : Int} (n : Nat) (h : i.natAbs ≤ n) (hn : n < 2 ^ 3000 := by decide +kernel) : Bd i := Nat.lt_of_le_of_lt h hn
theorem dMul_bd {i j : Int} {S : Store} (h : Bd i) (h' : Bd j) : dMul (.int i) (.int j) S = .ok (.int (i * j)) S := by
  simp only [dMul]
  rw [if_pos (.inr (.inr ⟨h.sm, h'.sm⟩))]
theorem dMul_r {i j : Int} {S : Store} (h' : j.natAbs < 18446744073709551616) : dMul (.int i) (.int j) S = .ok (.int (i * j)) S := by
  simp only [dMul]
  rw [if_pos (.inr (.inl h'))]
theorem dMul_l {i j : Int} {S : Store} (h' : i.natAbs < 18446744073709551616) : dMul (.int i) (.int j) S = .ok (.int (i * j)) S := by
  simp only [dMul]
  rw [if_pos (.inl h')]
theorem dDiv_bd {i j : Int} {S : Store} (h : 0 < j) (h' : Bd j) : dDiv (.int i) (.int j) S = .ok (.int (i / j)) S := by
  simp only [dDiv]
  rw [if_pos h'.log, if_pos h]
theorem dMod_pos {i j : Int} {S : Store} (h : 0 < j) : dMod (.int i) (.int j) S = .ok (.int (i % j)) S := by
  simp only [dMod]
  rw [if_pos h]
@[simp] theorem dPow_10 {j : Int} {S : Store} (h : 0 ≤ j) (h' : j ≤ 1000) : dPow (.int 10) (.int j) S = .ok (.int (10 ^ j.toNat)) S := by
  simp only [dPow]
  rw [if_pos ⟨h, by omega, by decide⟩]
@[simp] theorem dAdd_int (i j : Int) (S : Store) : dAdd (.int i) (.int j) S = .ok (.int (i + j)) S := rfl
@[simp] theorem dSub_int (i j : Int) (S : Store) : dSub (.int i) (.int j) S = .ok (.int (i - j)) S := rfl
@[simp] theorem dLtI_int (i j : Int) (S : Store) : dLtI (.int i) (.int j) S = .ok (.bl (decide (i < j))) S := rfl
@[simp] theorem dLeI_int (i j : Int) (S : Store) : dLeI (.int i) (.int j) S = .ok (.bl (decide (i ≤ j))) S := rfl
@[simp] theorem dGtI_int (i j : Int) (S : Store) : dGtI (.int i) (.int j) S = .ok (.bl (decide (j < i))) S := rfl
@[simp] theorem dGeI_int (i j : Int) (S : Store) : dGeI (.int i) (.int j) S = .ok (.bl (decide (j ≤ i))) S := rfl
@[simp] theorem dNeg_int (i : Int) (S : Store) : dNeg (.int i) S = .ok (.int (-i)) S := rfl
theorem dEqB_int (f : Bool → Bool) (i j : Int) (S : Store) : dEqB f (.int i) (.int j) S = R.ok (D.bl (f (decide (i = j)))) S := by
  have e : PyData.eqv (.int i) (.int j) = decide (i = j) := rfl
  have d : ∀ k : Int, (PyData.int k).depth ≤ 64 := fun k => by simp [PyData.depth]
  show (if (PyData.int i).depth ≤ 64 ∧ (PyData.int j).depth ≤ 64 then R.ok (D.bl (f (PyData.eqv (.int i) (.int j)))) S else .bad) = _
  rw [if_pos ⟨d i, d j⟩, e]
@[simp] theorem dEq_str (a b : Str) (S : Store) : dEq (.str a) (.str b) S = .ok (.bl (decide (a = b))) S := rfl
@[simp] theorem dNe_str (a b : Str) (S : Store) : dNe (.str a) (.str b) S = .ok (.bl (!decide (a = b))) S := rfl
@[simp] theorem dEq_int (i j : Int) (S : Store) : dEq (.int i) (.int j) S = .ok (.bl (decide (i = j))) S := dEqB_int id i j S
@[simp] theorem dNe_int (i j : Int) (S : Store) : dNe (.int i) (.int j) S = .ok (.bl (!decide (i = j))) S := dEqB_int not i j S
@[simp] theorem dIsN_int (i : Int) (S : Store) : dIsN (.int i) .non S = .ok (.bl false) S := rfl
@[simp] theorem dIsN_non (S : Store) : dIsN .non .non S = .ok (.bl true) S := rfl
@[simp] theorem dNotN_int (i : Int) (S : Store) : dNotN (.int i) .non S = .ok (.bl true) S := rfl
@[simp] theorem dNotN_non (S : Store) : dNotN .non .non S = .ok (.bl false) S := rfl
@[simp] theorem cInt_int (i : Int) (S : Store) : cInt [.int i] S = .ok (.int i) S := rfl
@[simp] theorem cAbs_int (i : Int) (S : Store) : cAbs [.int i] S = .ok (.int (if i < 0 then -i else i)) S := rfl
@[simp] theorem cLen_tup (ds : List D) (S : Store) : cLen [.tup ds] S = .ok (.int ds.length) S := rfl
@[simp] theorem cMax_int (i j : Int) (S : Store) : cMax [.int i, .int j] S = .ok (.int (if j > i then j else i)) S := rfl
@[simp] theorem cMin_int (i j : Int) (S : Store) : cMin [.int i, .int j] S = .ok (.int (if j < i then j else i)) S := rfl
@[simp] theorem cMax_tup2 (i j : Int) (S : Store) : cMax [.tup [.int i, .int j]] S = .ok (.int (if i < j then j else i)) S := rfl
@[simp] theorem cLen_ref {n : Nat} {ds : List D} {S : Store} (h : S[n]? = some (.lst ds)) : cLen [.ref n] S = .ok (.int ds.length) S := by simp only [cLen, h]
@[simp] theorem dIx_tup {ds : List D} {i : Int} {S : Store} : dIx (.tup ds) (.int i) S = (match atI ds i with
  | some d => .ok d S
  | none => .bad) := rfl
@[simp] theorem dIx_ref {n : Nat} {ds : List D} {i : Int} {S : Store} (h : S[n]? = some (.lst ds)) : dIx (.ref n) (.int i) S = (match atI ds i with
  | some d => .ok d S
  | none => .bad) := by
  simp only [dIx, dicOf, h]
  all_goals (cases atI ds i <;> rfl)
theorem atI_nat {α : Type} (ds : List α) (i : Nat) : atI ds (i : Int) = ds[i]? := by
  by_cases h : i < ds.length
  · have h1 : (0 : Int) ≤ (i : Int) := by omega
    have h2 : (i : Int) < (ds.length : Int) := by omega
    simp [atI, ixN, h1, h2, h]
  · have h1 : (0 : Int) ≤ (i : Int) := by omega
    have h2 : ¬ ((i : Int) < (ds.length : Int)) := by omega
    simp [atI, ixN, h1, h2, h]
theorem atI_of {α : Type} (ds : List α) {i : Int} (h : 0 ≤ i) : atI ds i = ds[i.toNat]? := by
  have := atI_nat ds i.toNat
  rwa [Int.toNat_of_nonneg h] at this
@[simp] theorem atI_0 (ds : List D) : atI ds 0 = ds[0]? := atI_nat ds 0
@[simp] theorem atI_1 (ds : List D) : atI ds 1 = ds[1]? := atI_nat ds 1
@[simp] theorem atI_2 (ds : List D) : atI ds 2 = ds[2]? := atI_nat ds 2
/-! ends -/
@[simp] theorem R.bind_ok {α β : Type} (a : α) (S : Store) (f : α → Store → R β) : R.bind (.ok a S) f = f a S := rfl
@[simp] theorem R.bind_bad {α β : Type} (f : α → Store → R β) : R.bind (.bad : R α) f = .bad := rfl
@[simp] theorem R.bind_exc {α β : Type} (c g x : Str) (S : Store) (f : α → Store → R β) : R.bind (.exc c g x S : R α) f = .exc c g x S := rfl
@[simp] theorem R.andT_ok {α : Type} (a : α) (S : Store) (e : EnvP) (f : α → Store → T) : R.andT (.ok a S) e f = f a S := rfl
@[simp] theorem R.andT_bad {α : Type} (e : EnvP) (f : α → Store → T) : R.andT (.bad : R α) e f = .bad := rfl
@[simp] theorem R.andT_exc {α : Type} (c g x : Str) (S : Store) (e : EnvP) (f : α → Store → T) : R.andT (.exc c g x S : R α) e f = .exc c g x e S := rfl
@[simp] theorem ev_fVar (i : Nat) (env : EnvP) (S : Store) : fVar i env S = (match env[i]? with
  | some (some d) => .ok d S
  | _ => .bad) := by first | rfl | (unfold fVar; rfl)
@[simp] theorem ev_fK (d : D) (e_ : EnvP) (S : Store) : fK d e_ S = (.ok d S) := by first | rfl | (unfold fK; rfl)
@[simp] theorem ev_fBin (g : D → D → Store → R D) (fa fb : Ev) (env : EnvP) (S : Store) : fBin g fa fb env S = ((fa env S).bind fun x S1 => (fb env S1).bind fun y S2 => g x y S2) := by first | rfl | (unfold fBin; rfl)
@[simp] theorem ev_fUn (g : D → Store → R D) (fa : Ev) (env : EnvP) (S : Store) : fUn g fa env S = ((fa env S).bind fun x S1 => g x S1) := by first | rfl | (unfold fUn; rfl)
@[simp] theorem ev_fB (f : Ev) (env : EnvP) (S : Store) : fB f env S = ((f env S).bind fun x S1 => match x with
  | .bl k => .ok k S1
  | _ => .bad) := by first | rfl | (unfold fB; rfl)
@[simp] theorem ev_fTru (f : Ev) (env : EnvP) (S : Store) : fTru f env S = ((f env S).bind fun x S1 => match dTru x S1 with
  | some k => .ok k S1
  | none => .bad) := by first | rfl | (unfold fTru; rfl)
@[simp] theorem ev_fNotB (t : EnvP → Store → R Bool) (env : EnvP) (S : Store) : fNotB t env S = ((t env S).bind fun k S1 => .ok (!k) S1) := by first | rfl | (unfold fNotB; rfl)
@[simp] theorem ev_fAndB (t u : EnvP → Store → R Bool) (env : EnvP) (S : Store) : fAndB t u env S = ((t env S).bind fun k S1 => if k = true then u env S1 else .ok false S1) := by first | rfl | (unfold fAndB; rfl)
@[simp] theorem ev_fOrB (t u : EnvP → Store → R Bool) (env : EnvP) (S : Store) : fOrB t u env S = ((t env S).bind fun k S1 => if k = true then .ok true S1 else u env S1) := by first | rfl | (unfold fOrB; rfl)
@[simp] theorem ev_fAnd (f g : Ev) (env : EnvP) (S : Store) : fAnd f g env S = ((f env S).bind fun x S1 => match dTru x S1 with
  | some true => g env S1
  | some false => .ok x S1
  | none => .bad) := by first | rfl | (unfold fAnd; rfl)
@[simp] theorem ev_fOr (f g : Ev) (env : EnvP) (S : Store) : fOr f g env S = ((f env S).bind fun x S1 => match dTru x S1 with
  | some true => .ok x S1
  | some false => g env S1
  | none => .bad) := by first | rfl | (unfold fOr; rfl)
@[simp] theorem ev_fNot (f : Ev) (env : EnvP) (S : Store) : fNot f env S = ((f env S).bind fun x S1 => match dTru x S1 with
  | some k => .ok (.bl (!k)) S1
  | none => .bad) := by first | rfl | (unfold fNot; rfl)
@[simp] theorem ev_fIf (t : EnvP → Store → R Bool) (f g : Ev) (env : EnvP) (S : Store) : fIf t f g env S = ((t env S).bind fun k S1 => if k = true then f env S1 else g env S1) := by first | rfl | (unfold fIf; rfl)
@[simp] theorem ev_fNil (e_ : EnvP) (S : Store) : fNil e_ S = (.ok [] S) := by first | rfl | (unfold fNil; rfl)
@[simp] theorem ev_fCons (f : Ev) (fs : EnvP → Store → R (List D)) (env : EnvP) (S : Store) : fCons f fs env S = ((f env S).bind fun x S1 => (fs env S1).bind fun xs S2 => .ok (x :: xs) S2) := by first | rfl | (unfold fCons; rfl)
@[simp] theorem ev_fTup (fs : EnvP → Store → R (List D)) (env : EnvP) (S : Store) : fTup fs env S = ((fs env S).bind fun xs S1 => if xs.length ≤ 1000 then .ok (.tup xs) S1 else .bad) := by first | rfl | (unfold fTup; rfl)
@[simp] theorem ev_fLst (fs : EnvP → Store → R (List D)) (env : EnvP) (S : Store) : fLst fs env S = ((fs env S).bind fun xs S1 => if xs.length ≤ 1000 then .ok (.ref S1.length) (S1 ++ [.lst xs]) else .bad) := by first | rfl | (unfold fLst; rfl)
@[simp] theorem ev_fCB (g : List D → Store → R D) (fs : EnvP → Store → R (List D)) (env : EnvP) (S : Store) : fCB g fs env S = ((fs env S).bind fun xs S1 => g xs S1) := by first | rfl | (unfold fCB; rfl)
@[simp] theorem ev_fChain (g g' : D → D → Store → R D) (fa fb fc : Ev) (env : EnvP) (S : Store) : fChain g g' fa fb fc env S = ((fa env S).bind fun x S1 => (fb env S1).bind fun y S2 => (g x y S2).bind fun z S3 => match z with
  | .bl true => (fc env S3).bind fun w S4 => g' y w S4
  | .bl false => .ok (.bl false) S3
  | _ => .bad) := by first | rfl | (unfold fChain; rfl)
@[simp] theorem ev_sNil (env : EnvP) (S : Store) : sNil env S = (.nx env S) := by first | rfl | (unfold sNil; rfl)
@[simp] theorem ev_sSeq (f g : Sv) (env : EnvP) (S : Store) : sSeq f g env S = (match f env S with
  | .nx e S' => g e S'
  | r => r) := by first | rfl | (unfold sSeq; rfl)
@[simp] theorem ev_sPass (env : EnvP) (S : Store) : sPass env S = (.nx env S) := by first | rfl | (unfold sPass; rfl)
@[simp] theorem ev_sBreak (env : EnvP) (S : Store) : sBreak env S = (.bk env S) := by first | rfl | (unfold sBreak; rfl)
@[simp] theorem ev_sCont (env : EnvP) (S : Store) : sCont env S = (.ct env S) := by first | rfl | (unfold sCont; rfl)
@[simp] theorem ev_sExpr (f : Ev) (env : EnvP) (S : Store) : sExpr f env S = ((f env S).andT env fun _ S1 => .nx env S1) := by first | rfl | (unfold sExpr; rfl)
@[simp] theorem ev_sRet (f : Ev) (env : EnvP) (S : Store) : sRet f env S = ((f env S).andT env fun d S1 => .rt d S1) := by first | rfl | (unfold sRet; rfl)
@[simp] theorem ev_sRetN (env : EnvP) (S : Store) : sRetN env S = (.rt .non S) := by first | rfl | (unfold sRetN; rfl)
@[simp] theorem ev_sIf (t : EnvP → Store → R Bool) (f g : Sv) (env : EnvP) (S : Store) : sIf t f g env S = ((t env S).andT env fun k S1 => if k = true then f env S1 else g env S1) := by first | rfl | (unfold sIf; rfl)
@[simp] theorem ev_sSet (i : Nat) (f : Ev) (env : EnvP) (S : Store) : sSet i f env S = ((f env S).andT env fun d S1 => .nx (env.set i (some d)) S1) := by first | rfl | (unfold sSet; rfl)
@[simp] theorem ev_sAsg (p : Pt) (f : Ev) (env : EnvP) (S : Store) : sAsg p f env S = ((f env S).andT env fun d S1 => match p d env with
  | some e => .nx e S1
  | none => .bad) := by first | rfl | (unfold sAsg; rfl)
@[simp] theorem ev_sPar (i j : Nat) (fs : EnvP → Store → R (List D)) (env : EnvP) (S : Store) : sPar i j fs env S = ((fs env S).andT env fun ds S1 => match ds with
  | [d, e] => .nx ((env.set i (some d)).set j (some e)) S1
  | _ => .bad) := by first | rfl | (unfold sPar; rfl)
@[simp] theorem ev_ptName (i : Nat) (d : D) (env : EnvP) : ptName i d env = (some (env.set i (some d))) := by first | rfl | (unfold ptName; rfl)
@[simp] theorem ev_ptTup (n : Nat) (q : Pts) (d : D) (env : EnvP) : ptTup n q d env = (match d with
  | .tup ds => if ds.length = n then q ds env else none
  | _ => none) := by first | rfl | (unfold ptTup; rfl)
@[simp] theorem ev_ptCons (p : Pt) (q : Pts) (ds : List D) (env : EnvP) : ptCons p q ds env = (match ds with
  | d :: r => (p d env).bind fun e => q r e
  | [] => none) := by first | rfl | (unfold ptCons; rfl)
@[simp] theorem ev_ptNil (ds : List D) (env : EnvP) : ptNil ds env = (match ds with
  | [] => some env
  | _ => none) := by first | rfl | (unfold ptNil; rfl)
@[simp] theorem ev_fDef (m : Nat) (b : Sv) (ds : List D) (S : Store) : fDef m b ds S = (match b (ds.map some ++ List.replicate (m - ds.length) none) S with
  | .rt d S' => .ok d S'
  | .nx _ S' => .ok .non S'
  | .exc c f x _ S' => .exc c f x S'
  | _ => .bad) := by first | rfl | (unfold fDef; rfl)
@[simp] theorem ev_fCall (F : FnSem) (dds : List D) (fs : EnvP → Store → R (List D)) (env : EnvP) (S : Store) : fCall F dds fs env S = ((fs env S).bind fun xs S1 => F (xs ++ dds) S1) := by first | rfl | (unfold fCall; rfl)
@[simp] theorem ev_fNo (e_ : EnvP) (S : Store) : fNo e_ S = (.ok none S) := by first | rfl | (unfold fNo; rfl)
@[simp] theorem ev_fSo (f : Ev) (env : EnvP) (S : Store) : fSo f env S = ((f env S).bind fun x S1 => match x with
  | .int i => .ok (some i) S1
  | _ => .bad) := by first | rfl | (unfold fSo; rfl)
@[simp] theorem ev_dTru (x : D) (S : Store)  : dTru x S = (match x with
  | .non => some false
  | .bl b => some b
  | .int i => some (i != 0)
  | .tup xs => some (!xs.isEmpty)
  | .ref n => match S[n]? with
    | some (.lst xs) => some (!xs.isEmpty)
    | _ => none
  | _ => none) := by first | rfl | (unfold dTru; rfl)
@[simp] theorem ev_sNever (e_ : EnvP) (s_ : Store) : sNever e_ s_ = (.bad) := by first | rfl | (unfold sNever; rfl)
@[simp] theorem ev_sNoX (b : Sv) (env : EnvP) (S : Store) : sNoX b env S = (match b env S with
  | .exc _ _ _ _ _ => .bad
  | r => r) := by first | rfl | (unfold sNoX; rfl)
@[simp] theorem ev_sSetIx (fe fo fi : Ev) (env : EnvP) (S : Store) : sSetIx fe fo fi env S = ((fe env S).andT env fun v S1 => (fo env S1).andT env fun o S2 => (fi env S2).andT env fun i S3 => (dSetIx o i v S3).andT env fun _ S4 => .nx env S4) := by first | rfl | (unfold sSetIx; rfl)
@[simp] theorem ev_fSl (fa : Ev) (fl fh : Eo) (env : EnvP) (S : Store) : fSl fa fl fh env S = ((fa env S).bind fun x S1 => (fl env S1).bind fun l S2 => (fh env S2).bind fun h S3 => dSl x l h S3) := by first | rfl | (unfold fSl; rfl)
@[simp] theorem ev_fDNew (e_ : EnvP) (S : Store) : fDNew e_ S = (.ok (.ref S.length) (S ++ [.dic []])) := by first | rfl | (unfold fDNew; rfl)
@[simp] theorem ev_fGet2 (fo fe ff : Ev) (env : EnvP) (S : Store) : fGet2 fo fe ff env S = ((fo env S).bind fun o S1 => match dicOf S1 o with
  | some _ => (fe env S1).bind fun k S2 => (ff env S2).bind fun x S3 => match dicOf S3 o with
    | some kds => if D.skey k then .ok ((dGet kds k).getD x) S3 else .bad
    | none => .bad
  | none => .bad) := by first | rfl | (unfold fGet2; rfl)
@[simp] theorem ev_fMethL (g : D → List D → Store → R D) (fo : Ev) (fs : EnvP → Store → R (List D)) (env : EnvP) (S : Store) : fMethL g fo fs env S = ((fo env S).bind fun x S1 => match x with
  | .ref n => match S1[n]? with
    | some (.lst _) => (fs env S1).bind fun xs S2 => g x xs S2
    | _ => .bad
  | _ => .bad) := by first | rfl | (unfold fMethL; rfl)
end EV

set_option maxRecDepth 100000
set_option autoImplicit false
/-! EV: loops by invariants. -/
namespace EV
open PySem L2
theorem forL_nilH (gs : List (Nat × O)) (p : Pt) (b : Sv) (e : EnvP) (S : Store) (h : Held gs S) : forL gs p b [] e S = .nx e S := by
  unfold forL
  rw [if_pos h]
theorem forL_consH (gs : List (Nat × O)) (p : Pt) (b : Sv) (d : D) (ds : List D) (e : EnvP) (S : Store) (h : Held gs S) : forL gs p b (d :: ds) e S = (match p d e with
    | some e1 => (match b e1 S with
      | .nx e2 S2 => forL gs p b ds e2 S2
      | .ct e2 S2 => forL gs p b ds e2 S2
      | .bk e2 S2 => .nx e2 S2
      | r => r)
    | none => .bad) := by
  conv => lhs; unfold forL
  rw [if_pos h]
  all_goals (cases p d e <;> first | rfl | (rename_i e1; dsimp only; cases b e1 S <;> rfl))
/-- a loop that runs to its end -/
theorem forL_inv {gs : List (Nat × O)} {p : Pt} {b : Sv} (I : Nat → EnvP → Store → Prop) : ∀ (ds : List D) (k : Nat), (∀ i d e S, ds[i]? = some d → I (k + i) e S → Held gs S ∧ ∃ e1 e2 S2, p d e = some e1 ∧ (b e1 S = .nx e2 S2 ∨ b e1 S = .ct e2 S2) ∧ I (k + i + 1) e2 S2) → (∀ e S, I (k + ds.length) e S → Held gs S) → ∀ e S, I k e S → ∃ e' S', forL gs p b ds e S = .nx e' S' ∧ I (k + ds.length) e' S'
  | [], k, _, hh, e, S, h => ⟨e, S, forL_nilH gs p b e S (hh e S h), h⟩
  | d :: ds, k, st, hh, e, S, h => by
    obtain ⟨hd, e1, e2, S2, h1, h2, h3⟩ := st 0 d e S rfl h
    obtain ⟨e', S', g1, g2⟩ := forL_inv I ds (k + 1) (fun i d e S hi hI => by
      have := st (i + 1) d e S (by simpa using hi) (by rw [show k + (i + 1) = k + 1 + i by omega]; exact hI)
      rwa [show k + (i + 1) = k + 1 + i by omega] at this) (fun e S hI => hh e S (by rw [List.length_cons, show k + (ds.length + 1) = k + 1 + ds.length by omega]; exact hI)) e2 S2 h3
    refine ⟨e', S', ?_, by rw [List.length_cons, show k + (ds.length + 1) = k + 1 + ds.length by omega]; exact g2⟩
    rw [forL_consH gs p b d ds e S hd, h1]
    dsimp only
    rcases h2 with h2 | h2 <;> (rw [h2]; exact g1)
/-- a gathering whose test and element leave the store -/
theorem lcN_map {gs : List (Nat × O)} {p : Pt} {t : EnvP → Store → R Bool} {f : Ev} {env0 : EnvP} {N : Nat} (g : D → D) : ∀ (ds : List D) (S : Store) (acc : List D), S[N]? = some (.lst acc) → acc.length + ds.length < LIM → (∀ a, Held gs (S.set N (.lst a))) →
    (∀ d ∈ ds, ∃ e1, p d env0 = some e1 ∧ ∀ a, t e1 (S.set N (.lst a)) = .ok true (S.set N (.lst a)) ∧ f e1 (S.set N (.lst a)) = .ok (g d) (S.set N (.lst a))) → lcN gs p t f env0 N ds S = .ok () (S.set N (.lst (acc ++ ds.map g)))
  | [], S, acc, hN, hl, hh, _ => by
    have e : S.set N (.lst acc) = S := by
      obtain ⟨h1, h2⟩ := List.getElem?_eq_some_iff.mp hN
      rw [← h2]
      exact List.set_getElem_self h1
    have := hh acc
    rw [e] at this
    unfold lcN
    rw [if_pos this, List.map_nil, List.append_nil, e]
  | d :: ds, S, acc, hN, hl, hh, hs => by
    have e : S.set N (.lst acc) = S := by
      obtain ⟨h1, h2⟩ := List.getElem?_eq_some_iff.mp hN
      rw [← h2]
      exact List.set_getElem_self h1
    have hd := hh acc
    rw [e] at hd
    obtain ⟨e1, h1, h2⟩ := hs d List.mem_cons_self
    obtain ⟨h3, h4⟩ := h2 acc
    rw [e] at h3 h4
    have hN' : N < S.length := (List.getElem?_eq_some_iff.mp hN).1
    unfold lcN
    rw [if_pos hd, h1]
    simp only [List.length_cons] at hl
    simp only [h3, h4, hN, if_true]
    rw [if_pos (by omega)]
    rw [lcN_map g ds (S.set N (.lst (acc ++ [g d]))) (acc ++ [g d]) (List.getElem?_set_self hN') (by simp; omega) (fun a => by rw [List.set_set]; exact hh a) (fun x hx => by
      obtain ⟨e2, k1, k2⟩ := hs x (List.mem_cons_of_mem _ hx)
      exact ⟨e2, k1, fun a => by rw [List.set_set]; exact k2 a⟩), List.set_set]
    simp
theorem fLc_map {fi : Ei} {p : Pt} {t : EnvP → Store → R Bool} {f : Ev} {ws : List Nat} {env : EnvP} {S S1 : Store} {ds : List D} {gs : List (Nat × O)} (g : D → D) (hi : fi env S = .ok (ds, gs) S1) (hl : ds.length < LIM) (hh : ∀ a, Held gs (S1 ++ [.lst a]))
    (hs : ∀ d ∈ ds, ∃ e1, p d (wipeP env ws) = some e1 ∧ ∀ a, t e1 (S1 ++ [.lst a]) = .ok true (S1 ++ [.lst a]) ∧ f e1 (S1 ++ [.lst a]) = .ok (g d) (S1 ++ [.lst a])) : fLc fi p t f ws env S = .ok (.ref S1.length) (S1 ++ [.lst (ds.map g)]) := by
  have st : ∀ a : List D, (S1 ++ [O.lst []]).set S1.length (.lst a) = S1 ++ [.lst a] := fun a => by simp
  have h := lcN_map (gs := gs) (p := p) (t := t) (f := f) (env0 := wipeP env ws) (N := S1.length) g ds (S1 ++ [.lst []]) [] (by simp) (by simpa using hl) (fun a => by rw [st]; exact hh a) (fun d hd => by
    obtain ⟨e1, a1, a2⟩ := hs d hd
    exact ⟨e1, a1, fun a => by rw [st]; exact a2 a⟩)
  unfold fLc
  rw [hi, R.bind_ok]
  dsimp only
  rw [h, st]
  rfl
end EV

set_option maxRecDepth 100000
set_option maxHeartbeats 1000000
set_option autoImplicit false
namespace P58
open PySem PySem.Spec PyProof.Rows L2 EV
abbrev top (i : Nat) : Stmt := PySem.Challenge.pw_evensure_k58_whole_where_beats_part.main.body.getD i (.Pass ⟨0, 0, 0, 0⟩)
structure Txt (K : PySem.W.Frag) (mg : Str → Option Value) where
  a__law_stream : Addr
  fd__law_stream : FuncData
  F__law_stream : FunD K "_law_stream" "_law_stream" (defArgs (top 28)) (defBody (top 28)) (defScope (top 28)) [] [] a__law_stream fd__law_stream
  g__law_stream : mg "_law_stream" = some (.ref a__law_stream)
  b__law_stream : ∃ ds, Vals [] ds ∧ Binds K fd__law_stream ["script"] ds
  a__law_divisor : Addr
  fd__law_divisor : FuncData
  F__law_divisor : FunD K "_law_divisor" "_law_divisor" (defArgs (top 34)) (defBody (top 34)) (defScope (top 34)) [] [] a__law_divisor fd__law_divisor
  g__law_divisor : mg "_law_divisor" = some (.ref a__law_divisor)
  b__law_divisor : ∃ ds, Vals [] ds ∧ Binds K fd__law_divisor ["one", "other"] ds
  a__law_lowest : Addr
  fd__law_lowest : FuncData
  F__law_lowest : FunD K "_law_lowest" "_law_lowest" (defArgs (top 35)) (defBody (top 35)) (defScope (top 35)) [] [] a__law_lowest fd__law_lowest
  g__law_lowest : mg "_law_lowest" = some (.ref a__law_lowest)
  b__law_lowest : ∃ ds, Vals [] ds ∧ Binds K fd__law_lowest ["top", "bottom"] ds
  a__law_next : Addr
  fd__law_next : FuncData
  F__law_next : FunD K "_law_next" "_law_next" (defArgs (top 29)) (defBody (top 29)) (defScope (top 29)) [] [] a__law_next fd__law_next
  g__law_next : mg "_law_next" = some (.ref a__law_next)
  b__law_next : ∃ ds, Vals [] ds ∧ Binds K fd__law_next ["stream", "many"] ds
  a_is_tuple_of : Addr
  fd_is_tuple_of : FuncData
  F_is_tuple_of : FunD K "is_tuple_of" "is_tuple_of" (defArgs (top 6)) (defBody (top 6)) (defScope (top 6)) [] [] a_is_tuple_of fd_is_tuple_of
  g_is_tuple_of : mg "is_tuple_of" = some (.ref a_is_tuple_of)
  b_is_tuple_of : ∃ ds, Vals [] ds ∧ Binds K fd_is_tuple_of ["value", "least", "most"] ds
  a_is_integer : Addr
  fd_is_integer : FuncData
  F_is_integer : FunD K "is_integer" "is_integer" (defArgs (top 4)) (defBody (top 4)) (defScope (top 4)) [] [] a_is_integer fd_is_integer
  g_is_integer : mg "is_integer" = some (.ref a_is_integer)
  b_is_integer : ∃ ds, Vals [] ds ∧ Binds K fd_is_integer ["value"] ds
  a_is_from_to : Addr
  fd_is_from_to : FuncData
  F_is_from_to : FunD K "is_from_to" "is_from_to" (defArgs (top 5)) (defBody (top 5)) (defScope (top 5)) [] [] a_is_from_to fd_is_from_to
  g_is_from_to : mg "is_from_to" = some (.ref a_is_from_to)
  b_is_from_to : ∃ ds, Vals [] ds ∧ Binds K fd_is_from_to ["value", "least", "most"] ds
  a_common_divisor : Addr
  fd_common_divisor : FuncData
  F_common_divisor : FunD K "common_divisor" "common_divisor" (defArgs (top 10)) (defBody (top 10)) (defScope (top 10)) [] [] a_common_divisor fd_common_divisor
  g_common_divisor : mg "common_divisor" = some (.ref a_common_divisor)
  b_common_divisor : ∃ ds, Vals [] ds ∧ Binds K fd_common_divisor ["one", "other"] ds
  a_is_fraction : Addr
  fd_is_fraction : FuncData
  F_is_fraction : FunD K "is_fraction" "is_fraction" (defArgs (top 11)) (defBody (top 11)) (defScope (top 11)) [] [] a_is_fraction fd_is_fraction
  g_is_fraction : mg "is_fraction" = some (.ref a_is_fraction)
  b_is_fraction : ∃ ds, Vals [] ds ∧ Binds K fd_is_fraction ["value"] ds
  a_is_world : Addr
  fd_is_world : FuncData
  F_is_world : FunD K "is_world" "is_world" (defArgs (top 14)) (defBody (top 14)) (defScope (top 14)) [] [] a_is_world fd_is_world
  g_is_world : mg "is_world" = some (.ref a_is_world)
  b_is_world : ∃ ds, Vals [] ds ∧ Binds K fd_is_world ["value"] ds
  a_check_world : Addr
  fd_check_world : FuncData
  F_check_world : FunD K "check_world" "check_world" (defArgs (top 15)) (defBody (top 15)) (defScope (top 15)) [V.str "world"] [] a_check_world fd_check_world
  g_check_world : mg "check_world" = some (.ref a_check_world)
  b_check_world : ∃ ds, Vals [] ds ∧ Binds K fd_check_world ["world", "name"] ds
  b1_check_world : ∃ ds, Vals [V.str "world"] ds ∧ Binds K fd_check_world ["world", "name"] ds
  a_check_worlds : Addr
  fd_check_worlds : FuncData
  F_check_worlds : FunD K "check_worlds" "check_worlds" (defArgs (top 24)) (defBody (top 24)) (defScope (top 24)) [] [] a_check_worlds fd_check_worlds
  g_check_worlds : mg "check_worlds" = some (.ref a_check_worlds)
  b_check_worlds : ∃ ds, Vals [] ds ∧ Binds K fd_check_worlds ["world", "other"] ds
  a_check_from_to : Addr
  fd_check_from_to : FuncData
  F_check_from_to : FunD K "check_from_to" "check_from_to" (defArgs (top 7)) (defBody (top 7)) (defScope (top 7)) [] [] a_check_from_to fd_check_from_to
  g_check_from_to : mg "check_from_to" = some (.ref a_check_from_to)
  b_check_from_to : ∃ ds, Vals [] ds ∧ Binds K fd_check_from_to ["value", "least", "most", "name"] ds
  a_check_event : Addr
  fd_check_event : FuncData
  F_check_event : FunD K "check_event" "check_event" (defArgs (top 16)) (defBody (top 16)) (defScope (top 16)) [V.str "event"] [] a_check_event fd_check_event
  g_check_event : mg "check_event" = some (.ref a_check_event)
  b_check_event : ∃ ds, Vals [] ds ∧ Binds K fd_check_event ["value", "name"] ds
  b1_check_event : ∃ ds, Vals [V.str "event"] ds ∧ Binds K fd_check_event ["value", "name"] ds
  a_day_among : Addr
  fd_day_among : FuncData
  F_day_among : FunD K "day_among" "day_among" (defArgs (top 17)) (defBody (top 17)) (defScope (top 17)) [] [] a_day_among fd_day_among
  g_day_among : mg "day_among" = some (.ref a_day_among)
  b_day_among : ∃ ds, Vals [] ds ∧ Binds K fd_day_among ["world", "event"] ds
  a_greatest_of : Addr
  fd_greatest_of : FuncData
  F_greatest_of : FunD K "greatest_of" "greatest_of" (defArgs (top 19)) (defBody (top 19)) (defScope (top 19)) [] [] a_greatest_of fd_greatest_of
  g_greatest_of : mg "greatest_of" = some (.ref a_greatest_of)
  b_greatest_of : ∃ ds, Vals [] ds ∧ Binds K fd_greatest_of ["many", "m", "a", "b", "c", "d"] ds
  a_agree_on : Addr
  fd_agree_on : FuncData
  F_agree_on : FunD K "agree_on" "agree_on" (defArgs (top 21)) (defBody (top 21)) (defScope (top 21)) [] [] a_agree_on fd_agree_on
  g_agree_on : mg "agree_on" = some (.ref a_agree_on)
  b_agree_on : ∃ ds, Vals [] ds ∧ Binds K fd_agree_on ["world", "other", "first", "last"] ds
  a_agree_along : Addr
  fd_agree_along : FuncData
  F_agree_along : FunD K "agree_along" "agree_along" (defArgs (top 23)) (defBody (top 23)) (defScope (top 23)) [] [] a_agree_along fd_agree_along
  g_agree_along : mg "agree_along" = some (.ref a_agree_along)
  b_agree_along : ∃ ds, Vals [] ds ∧ Binds K fd_agree_along ["world", "other", "event", "sign", "step"] ds
  a_steps_agreed : Addr
  fd_steps_agreed : FuncData
  F_steps_agreed : FunD K "steps_agreed" "steps_agreed" (defArgs (top 22)) (defBody (top 22)) (defScope (top 22)) [] [] a_steps_agreed fd_steps_agreed
  g_steps_agreed : mg "steps_agreed" = some (.ref a_steps_agreed)
  b_steps_agreed : ∃ ds, Vals [] ds ∧ Binds K fd_steps_agreed ["world", "other", "event", "sign"] ds
  a_parting : Addr
  fd_parting : FuncData
  F_parting : FunD K "parting" "parting" (defArgs (top 25)) (defBody (top 25)) (defScope (top 25)) [] [] a_parting fd_parting
  g_parting : mg "parting" = some (.ref a_parting)
  b_parting : ∃ ds, Vals [] ds ∧ Binds K fd_parting ["world", "other", "first"] ds
  a_together : Addr
  fd_together : FuncData
  F_together : FunD K "together" "together" (defArgs (top 26)) (defBody (top 26)) (defScope (top 26)) [] [] a_together fd_together
  g_together : mg "together" = some (.ref a_together)
  b_together : ∃ ds, Vals [] ds ∧ Binds K fd_together ["world", "other", "event"] ds
  a__law_run : Addr
  fd__law_run : FuncData
  F__law_run : FunD K "_law_run" "_law_run" (defArgs (top 39)) (defBody (top 39)) (defScope (top 39)) [] [] a__law_run fd__law_run
  g__law_run : mg "_law_run" = some (.ref a__law_run)
  b__law_run : ∃ ds, Vals [] ds ∧ Binds K fd__law_run ["kind", "world", "other", "event"] ds
  a__law_plain : Addr
  fd__law_plain : FuncData
  F__law_plain : FunD K "_law_plain" "_law_plain" (defArgs (top 32)) (defBody (top 32)) (defScope (top 32)) [] [] a__law_plain fd__law_plain
  g__law_plain : mg "_law_plain" = some (.ref a__law_plain)
  b__law_plain : ∃ ds, Vals [] ds ∧ Binds K fd__law_plain ["value"] ds
  a__law_same : Addr
  fd__law_same : FuncData
  F__law_same : FunD K "_law_same" "_law_same" (defArgs (top 33)) (defBody (top 33)) (defScope (top 33)) [] [] a__law_same fd__law_same
  g__law_same : mg "_law_same" = some (.ref a__law_same)
  b__law_same : ∃ ds, Vals [] ds ∧ Binds K fd__law_same ["value", "due"] ds
  a__law_pick : Addr
  fd__law_pick : FuncData
  F__law_pick : FunD K "_law_pick" "_law_pick" (defArgs (top 30)) (defBody (top 30)) (defScope (top 30)) [] [] a__law_pick fd__law_pick
  g__law_pick : mg "_law_pick" = some (.ref a__law_pick)
  b__law_pick : ∃ ds, Vals [] ds ∧ Binds K fd__law_pick ["stream", "rows"] ds
  a__law_inverse : Addr
  fd__law_inverse : FuncData
  F__law_inverse : FunD K "_law_inverse" "_law_inverse" (defArgs (top 43)) (defBody (top 43)) (defScope (top 43)) [] [] a__law_inverse fd__law_inverse
  g__law_inverse : mg "_law_inverse" = some (.ref a__law_inverse)
  b__law_inverse : ∃ ds, Vals [] ds ∧ Binds K fd__law_inverse ["p", "q"] ds
  a__law_day : Addr
  fd__law_day : FuncData
  F__law_day : FunD K "_law_day" "_law_day" (defArgs (top 37)) (defBody (top 37)) (defScope (top 37)) [] [] a__law_day fd__law_day
  g__law_day : mg "_law_day" = some (.ref a__law_day)
  b__law_day : ∃ ds, Vals [] ds ∧ Binds K fd__law_day ["world", "event"] ds
  a__law_agree : Addr
  fd__law_agree : FuncData
  F__law_agree : FunD K "_law_agree" "_law_agree" (defArgs (top 40)) (defBody (top 40)) (defScope (top 40)) [] [] a__law_agree fd__law_agree
  g__law_agree : mg "_law_agree" = some (.ref a__law_agree)
  b__law_agree : ∃ ds, Vals [] ds ∧ Binds K fd__law_agree ["world", "other", "event"] ds
  a__law_is_integer : Addr
  fd__law_is_integer : FuncData
  F__law_is_integer : FunD K "_law_is_integer" "_law_is_integer" (defArgs (top 31)) (defBody (top 31)) (defScope (top 31)) [] [] a__law_is_integer fd__law_is_integer
  g__law_is_integer : mg "_law_is_integer" = some (.ref a__law_is_integer)
  b__law_is_integer : ∃ ds, Vals [] ds ∧ Binds K fd__law_is_integer ["actual"] ds
  a__law_is_world : Addr
  fd__law_is_world : FuncData
  F__law_is_world : FunD K "_law_is_world" "_law_is_world" (defArgs (top 38)) (defBody (top 38)) (defScope (top 38)) [] [] a__law_is_world fd__law_is_world
  g__law_is_world : mg "_law_is_world" = some (.ref a__law_is_world)
  b__law_is_world : ∃ ds, Vals [] ds ∧ Binds K fd__law_is_world ["value"] ds
  a__law_great_holds : Addr
  fd__law_great_holds : FuncData
  F__law_great_holds : FunD K "_law_great_holds" "_law_great_holds" (defArgs (top 44)) (defBody (top 44)) (defScope (top 44)) [] [] a__law_great_holds fd__law_great_holds
  g__law_great_holds : mg "_law_great_holds" = some (.ref a__law_great_holds)
  b__law_great_holds : ∃ ds, Vals [] ds ∧ Binds K fd__law_great_holds ["stream"] ds
  a__law_neighbours_hold : Addr
  fd__law_neighbours_hold : FuncData
  F__law_neighbours_hold : FunD K "_law_neighbours_hold" "_law_neighbours_hold" (defArgs (top 45)) (defBody (top 45)) (defScope (top 45)) [] [] a__law_neighbours_hold fd__law_neighbours_hold
  g__law_neighbours_hold : mg "_law_neighbours_hold" = some (.ref a__law_neighbours_hold)
  b__law_neighbours_hold : ∃ ds, Vals [] ds ∧ Binds K fd__law_neighbours_hold ["stream"] ds
  a__law_world : Addr
  fd__law_world : FuncData
  F__law_world : FunD K "_law_world" "_law_world" (defArgs (top 36)) (defBody (top 36)) (defScope (top 36)) [] [] a__law_world fd__law_world
  g__law_world : mg "_law_world" = some (.ref a__law_world)
  b__law_world : ∃ ds, Vals [] ds ∧ Binds K fd__law_world ["stream", "size", "most"] ds
  a__law_near : Addr
  fd__law_near : FuncData
  F__law_near : FunD K "_law_near" "_law_near" (defArgs (top 41)) (defBody (top 41)) (defScope (top 41)) [] [] a__law_near fd__law_near
  g__law_near : mg "_law_near" = some (.ref a__law_near)
  b__law_near : ∃ ds, Vals [] ds ∧ Binds K fd__law_near ["stream", "world"] ds
  a__law_small_holds : Addr
  fd__law_small_holds : FuncData
  F__law_small_holds : FunD K "_law_small_holds" "_law_small_holds" (defArgs (top 42)) (defBody (top 42)) (defScope (top 42)) [] [] a__law_small_holds fd__law_small_holds
  g__law_small_holds : mg "_law_small_holds" = some (.ref a__law_small_holds)
  b__law_small_holds : ∃ ds, Vals [] ds ∧ Binds K fd__law_small_holds ["stream"] ds
  a_law : Addr
  fd_law : FuncData
  F_law : FunD K "law" "law" (defArgs (top 46)) (defBody (top 46)) (defScope (top 46)) [] [] a_law fd_law
  g_law : mg "law" = some (.ref a_law)
  b_law : ∃ ds, Vals [] ds ∧ Binds K fd_law ["script"] ds
  i_MOST_NUMBER : ∃ t, mg "MOST_NUMBER" = some (.int (1000000000000000000000000000000000000000000000000000000000000) t)
  i_MOST_ASKED : ∃ t, mg "MOST_ASKED" = some (.int (1000000000000000000) t)
  n_abs : mg "abs" = none
  n_all : mg "all" = none
  n_bool : mg "bool" = none
  n_int : mg "int" = none
  n_isinstance : mg "isinstance" = none
  n_len : mg "len" = none
  n_list : mg "list" = none
  n_max : mg "max" = none
  n_range : mg "range" = none
  n_repr : mg "repr" = none
  n_sorted : mg "sorted" = none
  n_str : mg "str" = none
  n_tuple : mg "tuple" = none
section
variable {P : Program} {w : World} {K : PySem.W.Frag} {mg : Str → Option Value} {base : Heap}
abbrev N__law_stream : List Str := ["script"]
theorem sc__law_stream : FnScope N__law_stream ["script"] (defScope (top 28)) := ⟨rfl, rfl, rfl, by decide +kernel, rfl, by decide +kernel, by decide +kernel⟩
noncomputable def b__law_stream : Sv := (sRet (fLst (fCons (fCB cList (fCons (fVar 0) fNil)) (fCons (fK (.int 0)) (fCons (fK (.int 0)) fNil)))))
noncomputable def F__law_stream : FnSem := fDef 1 b__law_stream
theorem ok__law_stream (T : Txt K mg) : FnG P w K mg base 1 T.a__law_stream T.fd__law_stream ["script"] F__law_stream := by
  refine fnG_mk (N := N__law_stream) (b := b__law_stream) T.F__law_stream sc__law_stream rfl (fun cdv A outer s H E hr gd tk => ?_)
  have hu := hr.units
  have hu65 : (A.deeper (envOfC "_law_stream" (defScope (top 28)) s.heap.objs.size T.a__law_stream cdv)).units + 65 < cLine := by have := hr.un; omega
  have hu1 := hu_of hr
  have nd := sc__law_stream.nd
  unfold b__law_stream
  exact (qs_one (qs_ret (q_lst (qa_cons (q_callTy (o_list rfl) p_list rfl T.n_list (by decide +kernel) (qa_cons (q_var 0 (pv 0)) qa_nil)) (qa_cons q_int (qa_cons q_int qa_nil))))))
abbrev N__law_divisor : List Str := ["one", "other", "turn"]
theorem sc__law_divisor : FnScope N__law_divisor ["one", "other"] (defScope (top 34)) := ⟨rfl, rfl, rfl, by decide +kernel, rfl, by decide +kernel, by decide +kernel⟩
noncomputable def b__law_divisor : Sv := (sSeq (sFor (fiRng (fCons (fK (.int 10000)) fNil)) (ptName 2) (sSeq (sIf (fB (fBin dEq (fVar 1) (fK (.int 0)))) (sRet (fCB cAbs (fCons (fVar 0) fNil))) sNil)
  (sPar 0 1 (fCons (fVar 1) (fCons (fBin dMod (fCB cInt (fCons (fVar 0) fNil)) (fCB cAbs (fCons (fVar 1) fNil))) fNil)))))
  (sRet (fK (.int 1))))
noncomputable def F__law_divisor : FnSem := fDef 3 b__law_divisor
theorem ok__law_divisor (T : Txt K mg) : FnG P w K mg base 1 T.a__law_divisor T.fd__law_divisor ["one", "other"] F__law_divisor := by
  refine fnG_mk (N := N__law_divisor) (b := b__law_divisor) T.F__law_divisor sc__law_divisor rfl (fun cdv A outer s H E hr gd tk => ?_)
  have hu := hr.units
  have hu65 : (A.deeper (envOfC "_law_divisor" (defScope (top 34)) s.heap.objs.size T.a__law_divisor cdv)).units + 65 < cLine := by have := hr.un; omega
  have hu1 := hu_of hr
  have nd := sc__law_divisor.nd
  unfold b__law_divisor
  exact (qs_cons (qs_for (passes_of rfl) rfl (qi_rng1 rfl T.n_range (qa_cons q_int qa_nil) rfl (len_cons (fun _ _ _ _ h => len_nil h))) (qg_name (pg_name (i := 2) nd rfl (Or.inl rfl))) (qs_cons (qs_if (qt_cmp (o_eq hu) p_eq (q_var 1 (pv 1)) q_int (nomark _)) (qs_one (qs_ret (q_callB call_abs p_abs rfl T.n_abs (by decide +kernel) (qa_cons (q_var 0 (pv 0)) qa_nil)))) qs_nil)
  (qs_one (qs_par (ps_par (i := 0) (j := 1) rfl nd rfl rfl (by decide) rfl rfl (qa_cons (q_var 1 (pv 1)) (qa_cons (q_op op_modN p_mod (q_callTy call_int1 p_int rfl T.n_int (by decide +kernel) (qa_cons (q_var 0 (pv 0)) qa_nil)) (q_callB call_abs p_abs rfl T.n_abs (by decide +kernel) (qa_cons (q_var 1 (pv 1)) qa_nil))) qa_nil)) rfl)))))
  (qs_one (qs_ret q_int)))
abbrev N__law_lowest : List Str := ["top", "bottom", "common"]
theorem sc__law_lowest : FnScope N__law_lowest ["top", "bottom"] (defScope (top 35)) := ⟨rfl, rfl, rfl, by decide +kernel, rfl, by decide +kernel, by decide +kernel⟩
noncomputable def b__law_lowest : Sv := (sSeq (sSet 2 (fCall F__law_divisor [] (fCons (fVar 0) (fCons (fVar 1) fNil))))
  (sSeq (sIf (fB (fBin dLtI (fVar 1) (fK (.int 0)))) (sSet 2 (fBin dSub (fK (.int 0)) (fVar 2))) sNil)
  (sRet (fTup (fCons (fBin dDiv (fVar 0) (fVar 2)) (fCons (fBin dDiv (fVar 1) (fVar 2)) fNil))))))
noncomputable def F__law_lowest : FnSem := fDef 3 b__law_lowest
theorem ok__law_lowest (T : Txt K mg) : FnG P w K mg base 2 T.a__law_lowest T.fd__law_lowest ["top", "bottom"] F__law_lowest := by
  refine fnG_mk (N := N__law_lowest) (b := b__law_lowest) T.F__law_lowest sc__law_lowest rfl (fun cdv A outer s H E hr gd tk => ?_)
  have hu := hr.units
  have hu65 : (A.deeper (envOfC "_law_lowest" (defScope (top 35)) s.heap.objs.size T.a__law_lowest cdv)).units + 65 < cLine := by have := hr.un; omega
  have hu1 := hu_of hr
  have nd := sc__law_lowest.nd
  unfold b__law_lowest
  exact (qs_cons (qs_set (ps_set (i := 2) nd rfl (Or.inl rfl) (q_call (ok__law_divisor T) (hr.mono (by decide)) gd rfl T.g__law_divisor T.F__law_divisor.kp T.b__law_divisor (fun _ _ _ => .nil) rfl tk (qa_cons (q_var 0 (pv 0)) (qa_cons (q_var 1 (pv 1)) qa_nil)) (len_cons (len_cons (fun _ _ _ _ h => len_nil h))))))
  (qs_cons (qs_if (qt_cmp op_lt p_lt (q_var 1 (pv 1)) q_int (nomark _)) (qs_one (qs_set (ps_set (i := 2) nd rfl (Or.inl rfl) (q_op op_sub p_sub q_int (q_var 2 (pv 2)))))) qs_nil)
  (qs_one (qs_ret (q_tup (qa_cons (q_op o_div p_div (q_var 0 (pv 0)) (q_var 2 (pv 2))) (qa_cons (q_op o_div p_div (q_var 1 (pv 1)) (q_var 2 (pv 2))) qa_nil)))))))
abbrev N__law_next : List Str := ["stream", "many", "digit", "k", "cell"]
theorem sc__law_next : FnScope N__law_next ["stream", "many"] (defScope (top 29)) := ⟨rfl, rfl, rfl, by decide +kernel, rfl, by decide +kernel, by decide +kernel⟩
noncomputable def b__law_next : Sv := (sSeq (sIf (fB (fBin dEq (fBin dIx (fVar 0) (fK (.int 1))) (fK (.int 0)))) (sSeq (sSet 3 (fBin dIx (fVar 0) (fK (.int 2))))
  (sSeq (sSet 4 (fBin dAdd (fK (.int 7)) (fVar 3)))
  (sSeq (sIf (fB (fBin dLtI (fVar 3) (fCB cLen (fCons (fBin dIx (fVar 0) (fK (.int 0))) fNil)))) (sSet 4 (fBin dMod (fCB cInt (fCons (fCB cAbs (fCons (fBin dIx (fBin dIx (fVar 0) (fK (.int 0))) (fVar 3)) fNil)) fNil)) (fBin dPow (fK (.int 10)) (fK (.int 60))))) sNil)
  (sSeq (sIf (fB (fBin dLtI (fVar 4) (fBin dPow (fK (.int 10)) (fK (.int 18))))) (sSeq (sSet 4 (fBin dMod (fCB cInt (fCons (fBin dAdd (fBin dAdd (fBin dMul (fVar 4) (fK (.int 48271))) (fBin dMul (fVar 3) (fK (.int 69621)))) (fK (.int 11))) fNil)) (fK (.int 2147483647))))
  (sSet 4 (fBin dAdd (fBin dMul (fBin dMod (fCB cInt (fCons (fBin dAdd (fBin dMul (fVar 4) (fK (.int 16807))) (fK (.int 13))) fNil)) (fK (.int 2147483647))) (fK (.int 65537))) (fVar 4)))) sNil)
  (sSeq (sSetIx (fVar 4) (fVar 0) (fK (.int 1)))
  (sSetIx (fBin dAdd (fVar 3) (fK (.int 1))) (fVar 0) (fK (.int 2)))))))) sNil)
  (sSeq (sSet 2 (fBin dMod (fCB cInt (fCons (fBin dIx (fVar 0) (fK (.int 1))) fNil)) (fVar 1)))
  (sSeq (sSetIx (fBin dDiv (fBin dIx (fVar 0) (fK (.int 1))) (fVar 1)) (fVar 0) (fK (.int 1)))
  (sRet (fVar 2)))))
noncomputable def F__law_next : FnSem := fDef 5 b__law_next
theorem ok__law_next (T : Txt K mg) : FnG P w K mg base 1 T.a__law_next T.fd__law_next ["stream", "many"] F__law_next := by
  refine fnG_mk (N := N__law_next) (b := b__law_next) T.F__law_next sc__law_next rfl (fun cdv A outer s H E hr gd tk => ?_)
  have hu := hr.units
  have hu65 : (A.deeper (envOfC "_law_next" (defScope (top 29)) s.heap.objs.size T.a__law_next cdv)).units + 65 < cLine := by have := hr.un; omega
  have hu1 := hu_of hr
  have nd := sc__law_next.nd
  unfold b__law_next
  exact (qs_cons (qs_if (qt_cmp (o_eq hu) p_eq (q_ix (o_ix hu1) p_ix (q_var 0 (pv 0)) q_int (fun _ _ => rfl)) q_int (nomark _)) (qs_cons (qs_set (ps_set (i := 3) nd rfl (Or.inl rfl) (q_ix (o_ix hu1) p_ix (q_var 0 (pv 0)) q_int (fun _ _ => rfl))))
  (qs_cons (qs_set (ps_set (i := 4) nd rfl (Or.inl rfl) (q_op o_add p_add q_int (q_var 3 (pv 3)))))
  (qs_cons (qs_if (qt_cmp op_lt p_lt (q_var 3 (pv 3)) (q_callB (o_len rfl) p_len rfl T.n_len (by decide +kernel) (qa_cons (q_ix (o_ix hu1) p_ix (q_var 0 (pv 0)) q_int (fun _ _ => rfl)) qa_nil)) (nomark _)) (qs_one (qs_set (ps_set (i := 4) nd rfl (Or.inl rfl) (q_op op_modN p_mod (q_callTy call_int1 p_int rfl T.n_int (by decide +kernel) (qa_cons (q_callB call_abs p_abs rfl T.n_abs (by decide +kernel) (qa_cons (q_ix (o_ix hu1) p_ix (q_ix (o_ix hu1) p_ix (q_var 0 (pv 0)) q_int (fun _ _ => rfl)) (q_var 3 (pv 3)) (fun _ _ => rfl)) qa_nil)) qa_nil)) (q_op op_pow p_pow q_int q_int))))) qs_nil)
  (qs_cons (qs_if (qt_cmp op_lt p_lt (q_var 4 (pv 4)) (q_op op_pow p_pow q_int q_int) (nomark _)) (qs_cons (qs_set (ps_set (i := 4) nd rfl (Or.inl rfl) (q_op op_modN p_mod (q_callTy call_int1 p_int rfl T.n_int (by decide +kernel) (qa_cons (q_op o_add p_add (q_op o_add p_add (q_op o_mul p_mul (q_var 4 (pv 4)) q_int) (q_op o_mul p_mul (q_var 3 (pv 3)) q_int)) q_int) qa_nil)) q_int)))
  (qs_one (qs_set (ps_set (i := 4) nd rfl (Or.inl rfl) (q_op o_add p_add (q_op o_mul p_mul (q_op op_modN p_mod (q_callTy call_int1 p_int rfl T.n_int (by decide +kernel) (qa_cons (q_op o_add p_add (q_op o_mul p_mul (q_var 4 (pv 4)) q_int) q_int) qa_nil)) q_int) q_int) (q_var 4 (pv 4))))))) qs_nil)
  (qs_cons (qs_setIx hu1 (q_var 4 (pv 4)) (q_var 0 (pv 0)) q_int)
  (qs_one (qs_setIx hu1 (q_op o_add p_add (q_var 3 (pv 3)) q_int) (q_var 0 (pv 0)) q_int))))))) qs_nil)
  (qs_cons (qs_set (ps_set (i := 2) nd rfl (Or.inl rfl) (q_op op_modN p_mod (q_callTy call_int1 p_int rfl T.n_int (by decide +kernel) (qa_cons (q_ix (o_ix hu1) p_ix (q_var 0 (pv 0)) q_int (fun _ _ => rfl)) qa_nil)) (q_var 1 (pv 1)))))
  (qs_cons (qs_setIx hu1 (q_op o_div p_div (q_ix (o_ix hu1) p_ix (q_var 0 (pv 0)) q_int (fun _ _ => rfl)) (q_var 1 (pv 1))) (q_var 0 (pv 0)) q_int)
  (qs_one (qs_ret (q_var 2 (pv 2)))))))
abbrev N_is_tuple_of : List Str := ["value", "least", "most"]
theorem sc_is_tuple_of : FnScope N_is_tuple_of ["value", "least", "most"] (defScope (top 6)) := ⟨rfl, rfl, rfl, by decide +kernel, rfl, by decide +kernel, by decide +kernel⟩
noncomputable def b_is_tuple_of : Sv := (sRet (fAnd (fCB cIsi (fCons (fVar 0) (fCons (fK (.ty "tuple")) fNil))) (fChain dLeI dLeI (fVar 1) (fCB cLen (fCons (fVar 0) fNil)) (fVar 2))))
noncomputable def F_is_tuple_of : FnSem := fDef 3 b_is_tuple_of
theorem ok_is_tuple_of (T : Txt K mg) : FnG P w K mg base 1 T.a_is_tuple_of T.fd_is_tuple_of ["value", "least", "most"] F_is_tuple_of := by
  refine fnG_mk (N := N_is_tuple_of) (b := b_is_tuple_of) T.F_is_tuple_of sc_is_tuple_of rfl (fun cdv A outer s H E hr gd tk => ?_)
  have hu := hr.units
  have hu65 : (A.deeper (envOfC "is_tuple_of" (defScope (top 6)) s.heap.objs.size T.a_is_tuple_of cdv)).units + 65 < cLine := by have := hr.un; omega
  have hu1 := hu_of hr
  have nd := sc_is_tuple_of.nd
  unfold b_is_tuple_of
  exact (qs_one (qs_ret (q_and (q_callB call_isi p_isi rfl T.n_isinstance (by decide +kernel) (qa_cons (q_var 0 (pv 0)) (qa_cons (q_ty rfl T.n_tuple (by decide +kernel)) qa_nil))) (q_one (q_chain op_le op_le p_le p_le (q_var 1 (pv 1)) (q_callB (o_len rfl) p_len rfl T.n_len (by decide +kernel) (qa_cons (q_var 0 (pv 0)) qa_nil)) (q_var 2 (pv 2)))))))
abbrev N_is_integer : List Str := ["value"]
theorem sc_is_integer : FnScope N_is_integer ["value"] (defScope (top 4)) := ⟨rfl, rfl, rfl, by decide +kernel, rfl, by decide +kernel, by decide +kernel⟩
noncomputable def b_is_integer : Sv := (sRet (fAnd (fCB cIsi (fCons (fVar 0) (fCons (fK (.ty "int")) fNil))) (fNot (fCB cIsi (fCons (fVar 0) (fCons (fK (.ty "bool")) fNil))))))
noncomputable def F_is_integer : FnSem := fDef 1 b_is_integer
theorem ok_is_integer (T : Txt K mg) : FnG P w K mg base 1 T.a_is_integer T.fd_is_integer ["value"] F_is_integer := by
  refine fnG_mk (N := N_is_integer) (b := b_is_integer) T.F_is_integer sc_is_integer rfl (fun cdv A outer s H E hr gd tk => ?_)
  have hu := hr.units
  have hu65 : (A.deeper (envOfC "is_integer" (defScope (top 4)) s.heap.objs.size T.a_is_integer cdv)).units + 65 < cLine := by have := hr.un; omega
  have hu1 := hu_of hr
  have nd := sc_is_integer.nd
  unfold b_is_integer
  exact (qs_one (qs_ret (q_and (q_callB call_isi p_isi rfl T.n_isinstance (by decide +kernel) (qa_cons (q_var 0 (pv 0)) (qa_cons (q_ty rfl T.n_int (by decide +kernel)) qa_nil))) (q_one (q_not (q_callB call_isi p_isi rfl T.n_isinstance (by decide +kernel) (qa_cons (q_var 0 (pv 0)) (qa_cons (q_ty rfl T.n_bool (by decide +kernel)) qa_nil))))))))
abbrev N_is_from_to : List Str := ["value", "least", "most"]
theorem sc_is_from_to : FnScope N_is_from_to ["value", "least", "most"] (defScope (top 5)) := ⟨rfl, rfl, rfl, by decide +kernel, rfl, by decide +kernel, by decide +kernel⟩
noncomputable def b_is_from_to : Sv := (sRet (fAnd (fCall F_is_integer [] (fCons (fVar 0) fNil)) (fChain dLeI dLeI (fVar 1) (fVar 0) (fVar 2))))
noncomputable def F_is_from_to : FnSem := fDef 3 b_is_from_to
theorem ok_is_from_to (T : Txt K mg) : FnG P w K mg base 2 T.a_is_from_to T.fd_is_from_to ["value", "least", "most"] F_is_from_to := by
  refine fnG_mk (N := N_is_from_to) (b := b_is_from_to) T.F_is_from_to sc_is_from_to rfl (fun cdv A outer s H E hr gd tk => ?_)
  have hu := hr.units
  have hu65 : (A.deeper (envOfC "is_from_to" (defScope (top 5)) s.heap.objs.size T.a_is_from_to cdv)).units + 65 < cLine := by have := hr.un; omega
  have hu1 := hu_of hr
  have nd := sc_is_from_to.nd
  unfold b_is_from_to
  exact (qs_one (qs_ret (q_and (q_call (ok_is_integer T) (hr.mono (by decide)) gd rfl T.g_is_integer T.F_is_integer.kp T.b_is_integer (fun _ _ _ => .nil) rfl tk (qa_cons (q_var 0 (pv 0)) qa_nil) (len_cons (fun _ _ _ _ h => len_nil h))) (q_one (q_chain op_le op_le p_le p_le (q_var 1 (pv 1)) (q_var 0 (pv 0)) (q_var 2 (pv 2)))))))
abbrev N_common_divisor : List Str := ["one", "other"]
theorem sc_common_divisor : FnScope N_common_divisor ["one", "other"] (defScope (top 10)) := ⟨rfl, rfl, rfl, by decide +kernel, rfl, by decide +kernel, by decide +kernel⟩
noncomputable def b_common_divisor : Sv := (sSeq (sWhile (fTru (fVar 1)) (sPar 0 1 (fCons (fVar 1) (fCons (fBin dMod (fVar 0) (fVar 1)) fNil))))
  (sRet (fCB cAbs (fCons (fVar 0) fNil))))
noncomputable def F_common_divisor : FnSem := fDef 2 b_common_divisor
theorem ok_common_divisor (T : Txt K mg) : FnG P w K mg base 1 T.a_common_divisor T.fd_common_divisor ["one", "other"] F_common_divisor := by
  refine fnG_mk (N := N_common_divisor) (b := b_common_divisor) T.F_common_divisor sc_common_divisor rfl (fun cdv A outer s H E hr gd tk => ?_)
  have hu := hr.units
  have hu65 : (A.deeper (envOfC "common_divisor" (defScope (top 10)) s.heap.objs.size T.a_common_divisor cdv)).units + 65 < cLine := by have := hr.un; omega
  have hu1 := hu_of hr
  have nd := sc_common_divisor.nd
  unfold b_common_divisor
  exact (qs_cons (qs_while (passes_of rfl) (qt_tru (q_var 1 (pv 1))) (qs_one (qs_par (ps_par (i := 0) (j := 1) rfl nd rfl rfl (by decide) rfl rfl (qa_cons (q_var 1 (pv 1)) (qa_cons (q_op op_modN p_mod (q_var 0 (pv 0)) (q_var 1 (pv 1))) qa_nil)) rfl))))
  (qs_one (qs_ret (q_callB call_abs p_abs rfl T.n_abs (by decide +kernel) (qa_cons (q_var 0 (pv 0)) qa_nil)))))
abbrev N_is_fraction : List Str := ["value"]
theorem sc_is_fraction : FnScope N_is_fraction ["value"] (defScope (top 11)) := ⟨rfl, rfl, rfl, by decide +kernel, rfl, by decide +kernel, by decide +kernel⟩
noncomputable def b_is_fraction : Sv := (sSeq (sIf (fOrB (fNotB (fTru (fCall F_is_tuple_of [] (fCons (fVar 0) (fCons (fK (.int 2)) (fCons (fK (.int 2)) fNil)))))) (fNotB (fTru (fCall F_is_from_to [] (fCons (fBin dIx (fVar 0) (fK (.int 0))) (fCons (fUn dNeg (fK (.int (1000000000000000000000000000000000000000000000000000000000000)))) (fCons (fK (.int (1000000000000000000000000000000000000000000000000000000000000))) fNil))))))) (sRet (fK (.bl false))) sNil)
  (sRet (fAnd (fCall F_is_from_to [] (fCons (fBin dIx (fVar 0) (fK (.int 1))) (fCons (fK (.int 1)) (fCons (fK (.int (1000000000000000000000000000000000000000000000000000000000000))) fNil)))) (fBin dEq (fCall F_common_divisor [] (fCons (fBin dIx (fVar 0) (fK (.int 0))) (fCons (fBin dIx (fVar 0) (fK (.int 1))) fNil))) (fK (.int 1))))))
noncomputable def F_is_fraction : FnSem := fDef 1 b_is_fraction
theorem ok_is_fraction (T : Txt K mg) : FnG P w K mg base 3 T.a_is_fraction T.fd_is_fraction ["value"] F_is_fraction := by
  refine fnG_mk (N := N_is_fraction) (b := b_is_fraction) T.F_is_fraction sc_is_fraction rfl (fun cdv A outer s H E hr gd tk => ?_)
  have hu := hr.units
  have hu65 : (A.deeper (envOfC "is_fraction" (defScope (top 11)) s.heap.objs.size T.a_is_fraction cdv)).units + 65 < cLine := by have := hr.un; omega
  have hu1 := hu_of hr
  have nd := sc_is_fraction.nd
  unfold b_is_fraction
  exact (qs_cons (qs_if (qt_w (qw_or (qt_not (qt_tru (q_call (ok_is_tuple_of T) (hr.mono (by decide)) gd rfl T.g_is_tuple_of T.F_is_tuple_of.kp T.b_is_tuple_of (fun _ _ _ => .nil) rfl tk (qa_cons (q_var 0 (pv 0)) (qa_cons q_int (qa_cons q_int qa_nil))) (len_cons (len_cons (len_cons (fun _ _ _ _ h => len_nil h))))))) (qw_or1 (qt_not (qt_tru (q_call (ok_is_from_to T) (hr.mono (by decide)) gd rfl T.g_is_from_to T.F_is_from_to.kp T.b_is_from_to (fun _ _ _ => .nil) rfl tk (qa_cons (q_ix (o_ix hu1) p_ix (q_var 0 (pv 0)) q_int (fun _ _ => rfl)) (qa_cons (q_un un_neg p_neg (q_gint rfl T.i_MOST_NUMBER)) (qa_cons (q_gint rfl T.i_MOST_NUMBER) qa_nil))) (len_cons (len_cons (len_cons (fun _ _ _ _ h => len_nil h)))))))))) (qs_one (qs_ret q_bl)) qs_nil)
  (qs_one (qs_ret (q_and (q_call (ok_is_from_to T) (hr.mono (by decide)) gd rfl T.g_is_from_to T.F_is_from_to.kp T.b_is_from_to (fun _ _ _ => .nil) rfl tk (qa_cons (q_ix (o_ix hu1) p_ix (q_var 0 (pv 0)) q_int (fun _ _ => rfl)) (qa_cons q_int (qa_cons (q_gint rfl T.i_MOST_NUMBER) qa_nil))) (len_cons (len_cons (len_cons (fun _ _ _ _ h => len_nil h))))) (q_one (q_cmp (o_eq hu) p_eq (q_call (ok_common_divisor T) (hr.mono (by decide)) gd rfl T.g_common_divisor T.F_common_divisor.kp T.b_common_divisor (fun _ _ _ => .nil) rfl tk (qa_cons (q_ix (o_ix hu1) p_ix (q_var 0 (pv 0)) q_int (fun _ _ => rfl)) (qa_cons (q_ix (o_ix hu1) p_ix (q_var 0 (pv 0)) q_int (fun _ _ => rfl)) qa_nil)) (len_cons (len_cons (fun _ _ _ _ h => len_nil h)))) q_int (nomark _)))))))
abbrev N_is_world : List Str := ["value"]
theorem sc_is_world : FnScope N_is_world ["value"] (defScope (top 14)) := ⟨rfl, rfl, rfl, by decide +kernel, rfl, by decide +kernel, by decide +kernel⟩
noncomputable def b_is_world : Sv := (sRet (fAnd (fCall F_is_tuple_of [] (fCons (fVar 0) (fCons (fK (.int 3)) (fCons (fK (.int 3)) fNil)))) (fAnd (fCall F_is_fraction [] (fCons (fSl (fVar 0) fNo (fSo (fK (.int 2)))) fNil)) (fCall F_is_from_to [] (fCons (fBin dIx (fVar 0) (fK (.int 2))) (fCons (fUn dNeg (fK (.int (1000000000000000000000000000000000000000000000000000000000000)))) (fCons (fK (.int (1000000000000000000000000000000000000000000000000000000000000))) fNil)))))))
noncomputable def F_is_world : FnSem := fDef 1 b_is_world
theorem ok_is_world (T : Txt K mg) : FnG P w K mg base 4 T.a_is_world T.fd_is_world ["value"] F_is_world := by
  refine fnG_mk (N := N_is_world) (b := b_is_world) T.F_is_world sc_is_world rfl (fun cdv A outer s H E hr gd tk => ?_)
  have hu := hr.units
  have hu65 : (A.deeper (envOfC "is_world" (defScope (top 14)) s.heap.objs.size T.a_is_world cdv)).units + 65 < cLine := by have := hr.un; omega
  have hu1 := hu_of hr
  have nd := sc_is_world.nd
  unfold b_is_world
  exact (qs_one (qs_ret (q_and (q_call (ok_is_tuple_of T) (hr.mono (by decide)) gd rfl T.g_is_tuple_of T.F_is_tuple_of.kp T.b_is_tuple_of (fun _ _ _ => .nil) rfl tk (qa_cons (q_var 0 (pv 0)) (qa_cons q_int (qa_cons q_int qa_nil))) (len_cons (len_cons (len_cons (fun _ _ _ _ h => len_nil h))))) (q_and (q_call (ok_is_fraction T) (hr.mono (by decide)) gd rfl T.g_is_fraction T.F_is_fraction.kp T.b_is_fraction (fun _ _ _ => .nil) rfl tk (qa_cons (q_slice (q_var 0 (pv 0)) qo_none (qo_some q_int)) qa_nil) (len_cons (fun _ _ _ _ h => len_nil h))) (q_one (q_call (ok_is_from_to T) (hr.mono (by decide)) gd rfl T.g_is_from_to T.F_is_from_to.kp T.b_is_from_to (fun _ _ _ => .nil) rfl tk (qa_cons (q_ix (o_ix hu1) p_ix (q_var 0 (pv 0)) q_int (fun _ _ => rfl)) (qa_cons (q_un un_neg p_neg (q_gint rfl T.i_MOST_NUMBER)) (qa_cons (q_gint rfl T.i_MOST_NUMBER) qa_nil))) (len_cons (len_cons (len_cons (fun _ _ _ _ h => len_nil h))))))))))
abbrev N_check_world : List Str := ["world", "name"]
theorem sc_check_world : FnScope N_check_world ["world", "name"] (defScope (top 15)) := ⟨rfl, rfl, rfl, by decide +kernel, rfl, by decide +kernel, by decide +kernel⟩
noncomputable def b_check_world : Sv := (sIf (fNotB (fTru (fCall F_is_world [] (fCons (fVar 0) fNil)))) sNever sNil)
noncomputable def F_check_world : FnSem := fDef 2 b_check_world
theorem ok_check_world (T : Txt K mg) : FnG P w K mg base 5 T.a_check_world T.fd_check_world ["world", "name"] F_check_world := by
  refine fnG_mk (N := N_check_world) (b := b_check_world) T.F_check_world sc_check_world rfl (fun cdv A outer s H E hr gd tk => ?_)
  have hu := hr.units
  have hu65 : (A.deeper (envOfC "check_world" (defScope (top 15)) s.heap.objs.size T.a_check_world cdv)).units + 65 < cLine := by have := hr.un; omega
  have hu1 := hu_of hr
  have nd := sc_check_world.nd
  unfold b_check_world
  exact (qs_one (qs_if (qt_not (qt_tru (q_call (ok_is_world T) (hr.mono (by decide)) gd rfl T.g_is_world T.F_is_world.kp T.b_is_world (fun _ _ _ => .nil) rfl tk (qa_cons (q_var 0 (pv 0)) qa_nil) (len_cons (fun _ _ _ _ h => len_nil h))))) (qs_one qs_never) qs_nil))
abbrev N_check_worlds : List Str := ["world", "other"]
theorem sc_check_worlds : FnScope N_check_worlds ["world", "other"] (defScope (top 24)) := ⟨rfl, rfl, rfl, by decide +kernel, rfl, by decide +kernel, by decide +kernel⟩
noncomputable def b_check_worlds : Sv := (sSeq (sExpr (fCall F_check_world [.str "world"] (fCons (fVar 0) fNil)))
  (sExpr (fCall F_check_world [] (fCons (fVar 1) (fCons (fK (.str "other")) fNil)))))
noncomputable def F_check_worlds : FnSem := fDef 2 b_check_worlds
theorem ok_check_worlds (T : Txt K mg) : FnG P w K mg base 6 T.a_check_worlds T.fd_check_worlds ["world", "other"] F_check_worlds := by
  refine fnG_mk (N := N_check_worlds) (b := b_check_worlds) T.F_check_worlds sc_check_worlds rfl (fun cdv A outer s H E hr gd tk => ?_)
  have hu := hr.units
  have hu65 : (A.deeper (envOfC "check_worlds" (defScope (top 24)) s.heap.objs.size T.a_check_worlds cdv)).units + 65 < cLine := by have := hr.un; omega
  have hu1 := hu_of hr
  have nd := sc_check_worlds.nd
  unfold b_check_worlds
  exact (qs_cons (qs_expr (q_call (ok_check_world T) (hr.mono (by decide)) gd rfl T.g_check_world T.F_check_world.kp T.b1_check_world (fun _ _ _ => .cons (.str _) (.nil)) rfl tk (qa_cons (q_var 0 (pv 0)) qa_nil) (len_cons (fun _ _ _ _ h => len_nil h))))
  (qs_one (qs_expr (q_call (ok_check_world T) (hr.mono (by decide)) gd rfl T.g_check_world T.F_check_world.kp T.b_check_world (fun _ _ _ => .nil) rfl tk (qa_cons (q_var 1 (pv 1)) (qa_cons q_str qa_nil)) (len_cons (len_cons (fun _ _ _ _ h => len_nil h)))))))
abbrev N_check_from_to : List Str := ["value", "least", "most", "name"]
theorem sc_check_from_to : FnScope N_check_from_to ["value", "least", "most", "name"] (defScope (top 7)) := ⟨rfl, rfl, rfl, by decide +kernel, rfl, by decide +kernel, by decide +kernel⟩
noncomputable def b_check_from_to : Sv := (sIf (fNotB (fTru (fCall F_is_from_to [] (fCons (fVar 0) (fCons (fVar 1) (fCons (fVar 2) fNil)))))) sNever sNil)
noncomputable def F_check_from_to : FnSem := fDef 4 b_check_from_to
theorem ok_check_from_to (T : Txt K mg) : FnG P w K mg base 3 T.a_check_from_to T.fd_check_from_to ["value", "least", "most", "name"] F_check_from_to := by
  refine fnG_mk (N := N_check_from_to) (b := b_check_from_to) T.F_check_from_to sc_check_from_to rfl (fun cdv A outer s H E hr gd tk => ?_)
  have hu := hr.units
  have hu65 : (A.deeper (envOfC "check_from_to" (defScope (top 7)) s.heap.objs.size T.a_check_from_to cdv)).units + 65 < cLine := by have := hr.un; omega
  have hu1 := hu_of hr
  have nd := sc_check_from_to.nd
  unfold b_check_from_to
  exact (qs_one (qs_if (qt_not (qt_tru (q_call (ok_is_from_to T) (hr.mono (by decide)) gd rfl T.g_is_from_to T.F_is_from_to.kp T.b_is_from_to (fun _ _ _ => .nil) rfl tk (qa_cons (q_var 0 (pv 0)) (qa_cons (q_var 1 (pv 1)) (qa_cons (q_var 2 (pv 2)) qa_nil))) (len_cons (len_cons (len_cons (fun _ _ _ _ h => len_nil h))))))) (qs_one qs_never) qs_nil))
abbrev N_check_event : List Str := ["value", "name"]
theorem sc_check_event : FnScope N_check_event ["value", "name"] (defScope (top 16)) := ⟨rfl, rfl, rfl, by decide +kernel, rfl, by decide +kernel, by decide +kernel⟩
noncomputable def b_check_event : Sv := (sExpr (fCall F_check_from_to [] (fCons (fVar 0) (fCons (fUn dNeg (fK (.int (1000000000000000000)))) (fCons (fK (.int (1000000000000000000))) (fCons (fVar 1) fNil))))))
noncomputable def F_check_event : FnSem := fDef 2 b_check_event
theorem ok_check_event (T : Txt K mg) : FnG P w K mg base 4 T.a_check_event T.fd_check_event ["value", "name"] F_check_event := by
  refine fnG_mk (N := N_check_event) (b := b_check_event) T.F_check_event sc_check_event rfl (fun cdv A outer s H E hr gd tk => ?_)
  have hu := hr.units
  have hu65 : (A.deeper (envOfC "check_event" (defScope (top 16)) s.heap.objs.size T.a_check_event cdv)).units + 65 < cLine := by have := hr.un; omega
  have hu1 := hu_of hr
  have nd := sc_check_event.nd
  unfold b_check_event
  exact (qs_one (qs_expr (q_call (ok_check_from_to T) (hr.mono (by decide)) gd rfl T.g_check_from_to T.F_check_from_to.kp T.b_check_from_to (fun _ _ _ => .nil) rfl tk (qa_cons (q_var 0 (pv 0)) (qa_cons (q_un un_neg p_neg (q_gint rfl T.i_MOST_ASKED)) (qa_cons (q_gint rfl T.i_MOST_ASKED) (qa_cons (q_var 1 (pv 1)) qa_nil)))) (len_cons (len_cons (len_cons (len_cons (fun _ _ _ _ h => len_nil h))))))))
abbrev N_day_among : List Str := ["world", "event", "p", "q", "c"]
theorem sc_day_among : FnScope N_day_among ["world", "event"] (defScope (top 17)) := ⟨rfl, rfl, rfl, by decide +kernel, rfl, by decide +kernel, by decide +kernel⟩
noncomputable def b_day_among : Sv := (sSeq (sAsg (ptTup 3 (ptCons (ptName 2) (ptCons (ptName 3) (ptCons (ptName 4) ptNil)))) (fVar 0))
  (sRet (fBin dDiv (fBin dAdd (fBin dMul (fVar 2) (fVar 1)) (fVar 4)) (fVar 3))))
noncomputable def F_day_among : FnSem := fDef 5 b_day_among
theorem ok_day_among (T : Txt K mg) : FnG P w K mg base 1 T.a_day_among T.fd_day_among ["world", "event"] F_day_among := by
  refine fnG_mk (N := N_day_among) (b := b_day_among) T.F_day_among sc_day_among rfl (fun cdv A outer s H E hr gd tk => ?_)
  have hu := hr.units
  have hu65 : (A.deeper (envOfC "day_among" (defScope (top 17)) s.heap.objs.size T.a_day_among cdv)).units + 65 < cLine := by have := hr.un; omega
  have hu1 := hu_of hr
  have nd := sc_day_among.nd
  unfold b_day_among
  exact (qs_cons (qs_asg (q_var 0 (pv 0)) (qg_tup rfl (qgs_cons (qg_name (pg_name (i := 2) nd rfl (Or.inl rfl))) (qgs_cons (qg_name (pg_name (i := 3) nd rfl (Or.inl rfl))) (qgs_cons (qg_name (pg_name (i := 4) nd rfl (Or.inl rfl))) qgs_nil)))))
  (qs_one (qs_ret (q_op o_div p_div (q_op o_add p_add (q_op o_mul p_mul (q_var 2 (pv 2)) (q_var 1 (pv 1))) (q_var 4 (pv 4))) (q_var 3 (pv 3))))))
abbrev N_greatest_of : List Str := ["many", "m", "a", "b", "c", "d", "more", "best", "top", "ends"]
theorem sc_greatest_of : FnScope N_greatest_of ["many", "m", "a", "b", "c", "d"] (defScope (top 19)) := ⟨rfl, rfl, rfl, by decide +kernel, rfl, by decide +kernel, by decide +kernel⟩
noncomputable def b_greatest_of : Sv := (sSeq (sAsg (ptTup 2 (ptCons (ptName 6) (ptCons (ptName 7) ptNil))) (fTup (fCons (fK (.int 0)) (fCons (fK .non) fNil))))
  (sWhile (fTru (fK (.bl true))) (sSeq (sPar 2 4 (fCons (fBin dAdd (fVar 2) (fBin dMul (fVar 3) (fBin dDiv (fVar 4) (fVar 1)))) (fCons (fBin dMod (fVar 4) (fVar 1)) fNil)))
  (sSeq (sPar 6 5 (fCons (fBin dAdd (fVar 6) (fBin dMul (fVar 3) (fBin dDiv (fVar 5) (fVar 1)))) (fCons (fBin dMod (fVar 5) (fVar 1)) fNil)))
  (sSeq (sSet 8 (fBin dDiv (fBin dAdd (fBin dMul (fVar 4) (fBin dSub (fVar 0) (fK (.int 1)))) (fVar 5)) (fVar 1)))
  (sSeq (sSet 9 (fTup (fCons (fVar 6) (fCons (fBin dAdd (fBin dAdd (fVar 6) (fBin dMul (fVar 2) (fBin dSub (fVar 0) (fK (.int 1))))) (fBin dMul (fVar 3) (fVar 8))) fNil))))
  (sSeq (sSet 7 (fIf (fB (fBin dIsN (fVar 7) (fK .non))) (fCB cMax (fCons (fVar 9) fNil)) (fCB cMax (fCons (fVar 7) (fCons (fCB cMax (fCons (fVar 9) fNil)) fNil)))))
  (sSeq (sIf (fOrB (fB (fBin dEq (fVar 8) (fK (.int 0)))) (fOrB (fAndB (fB (fBin dGeI (fVar 2) (fK (.int 0)))) (fB (fBin dGeI (fVar 3) (fK (.int 0))))) (fAndB (fB (fBin dLeI (fVar 2) (fK (.int 0)))) (fB (fBin dLeI (fVar 3) (fK (.int 0))))))) (sRet (fVar 7)) sNil)
  (sSeq (sIf (fB (fBin dLtI (fVar 2) (fK (.int 0)))) (sPar 6 5 (fCons (fBin dAdd (fVar 6) (fVar 3)) (fCons (fBin dSub (fVar 5) (fVar 4)) fNil))) sNil)
  (sAsg (ptTup 6 (ptCons (ptName 0) (ptCons (ptName 1) (ptCons (ptName 2) (ptCons (ptName 3) (ptCons (ptName 4) (ptCons (ptName 5) ptNil))))))) (fTup (fCons (fVar 8) (fCons (fVar 4) (fCons (fVar 3) (fCons (fVar 2) (fCons (fVar 1) (fCons (fBin dSub (fBin dSub (fVar 1) (fVar 5)) (fK (.int 1))) fNil)))))))))))))))))
noncomputable def F_greatest_of : FnSem := fDef 10 b_greatest_of
theorem ok_greatest_of (T : Txt K mg) : FnG P w K mg base 1 T.a_greatest_of T.fd_greatest_of ["many", "m", "a", "b", "c", "d"] F_greatest_of := by
  refine fnG_mk (N := N_greatest_of) (b := b_greatest_of) T.F_greatest_of sc_greatest_of rfl (fun cdv A outer s H E hr gd tk => ?_)
  have hu := hr.units
  have hu65 : (A.deeper (envOfC "greatest_of" (defScope (top 19)) s.heap.objs.size T.a_greatest_of cdv)).units + 65 < cLine := by have := hr.un; omega
  have hu1 := hu_of hr
  have nd := sc_greatest_of.nd
  unfold b_greatest_of
  exact (qs_cons (qs_asg (q_tup (qa_cons q_int (qa_cons q_non qa_nil))) (qg_tup rfl (qgs_cons (qg_name (pg_name (i := 6) nd rfl (Or.inl rfl))) (qgs_cons (qg_name (pg_name (i := 7) nd rfl (Or.inl rfl))) qgs_nil))))
  (qs_one (qs_while (passes_of rfl) (qt_tru q_bl) (qs_cons (qs_par (ps_par (i := 2) (j := 4) rfl nd rfl rfl (by decide) rfl rfl (qa_cons (q_op o_add p_add (q_var 2 (pv 2)) (q_op o_mul p_mul (q_var 3 (pv 3)) (q_op o_div p_div (q_var 4 (pv 4)) (q_var 1 (pv 1))))) (qa_cons (q_op op_modN p_mod (q_var 4 (pv 4)) (q_var 1 (pv 1))) qa_nil)) rfl))
  (qs_cons (qs_par (ps_par (i := 6) (j := 5) rfl nd rfl rfl (by decide) rfl rfl (qa_cons (q_op o_add p_add (q_var 6 (pv 6)) (q_op o_mul p_mul (q_var 3 (pv 3)) (q_op o_div p_div (q_var 5 (pv 5)) (q_var 1 (pv 1))))) (qa_cons (q_op op_modN p_mod (q_var 5 (pv 5)) (q_var 1 (pv 1))) qa_nil)) rfl))
  (qs_cons (qs_set (ps_set (i := 8) nd rfl (Or.inl rfl) (q_op o_div p_div (q_op o_add p_add (q_op o_mul p_mul (q_var 4 (pv 4)) (q_op op_sub p_sub (q_var 0 (pv 0)) q_int)) (q_var 5 (pv 5))) (q_var 1 (pv 1)))))
  (qs_cons (qs_set (ps_set (i := 9) nd rfl (Or.inl rfl) (q_tup (qa_cons (q_var 6 (pv 6)) (qa_cons (q_op o_add p_add (q_op o_add p_add (q_var 6 (pv 6)) (q_op o_mul p_mul (q_var 2 (pv 2)) (q_op op_sub p_sub (q_var 0 (pv 0)) q_int))) (q_op o_mul p_mul (q_var 3 (pv 3)) (q_var 8 (pv 8)))) qa_nil)))))
  (qs_cons (qs_set (ps_set (i := 7) nd rfl (Or.inl rfl) (q_if (qt_cmp op_isN p_isN (q_var 7 (pv 7)) q_non (nomark _)) (q_callB (o_max rfl) p_max rfl T.n_max (by decide +kernel) (qa_cons (q_var 9 (pv 9)) qa_nil)) (q_callB (o_max rfl) p_max rfl T.n_max (by decide +kernel) (qa_cons (q_var 7 (pv 7)) (qa_cons (q_callB (o_max rfl) p_max rfl T.n_max (by decide +kernel) (qa_cons (q_var 9 (pv 9)) qa_nil)) qa_nil))))))
  (qs_cons (qs_if (qt_w (qw_or (qt_cmp (o_eq hu) p_eq (q_var 8 (pv 8)) q_int (nomark _)) (qw_or (qt_w (qw_and (qt_cmp op_ge p_ge (q_var 2 (pv 2)) q_int (nomark _)) (qw_and1 (qt_cmp op_ge p_ge (q_var 3 (pv 3)) q_int (nomark _))))) (qw_or1 (qt_w (qw_and (qt_cmp op_le p_le (q_var 2 (pv 2)) q_int (nomark _)) (qw_and1 (qt_cmp op_le p_le (q_var 3 (pv 3)) q_int (nomark _))))))))) (qs_one (qs_ret (q_var 7 (pv 7)))) qs_nil)
  (qs_cons (qs_if (qt_cmp op_lt p_lt (q_var 2 (pv 2)) q_int (nomark _)) (qs_one (qs_par (ps_par (i := 6) (j := 5) rfl nd rfl rfl (by decide) rfl rfl (qa_cons (q_op o_add p_add (q_var 6 (pv 6)) (q_var 3 (pv 3))) (qa_cons (q_op op_sub p_sub (q_var 5 (pv 5)) (q_var 4 (pv 4))) qa_nil)) rfl))) qs_nil)
  (qs_one (qs_asg (q_tup (qa_cons (q_var 8 (pv 8)) (qa_cons (q_var 4 (pv 4)) (qa_cons (q_var 3 (pv 3)) (qa_cons (q_var 2 (pv 2)) (qa_cons (q_var 1 (pv 1)) (qa_cons (q_op op_sub p_sub (q_op op_sub p_sub (q_var 1 (pv 1)) (q_var 5 (pv 5))) q_int) qa_nil))))))) (qg_tup rfl (qgs_cons (qg_name (pg_name (i := 0) nd rfl (Or.inl rfl))) (qgs_cons (qg_name (pg_name (i := 1) nd rfl (Or.inl rfl))) (qgs_cons (qg_name (pg_name (i := 2) nd rfl (Or.inl rfl))) (qgs_cons (qg_name (pg_name (i := 3) nd rfl (Or.inl rfl))) (qgs_cons (qg_name (pg_name (i := 4) nd rfl (Or.inl rfl))) (qgs_cons (qg_name (pg_name (i := 5) nd rfl (Or.inl rfl))) qgs_nil)))))))))))))))))))
abbrev N_agree_on : List Str := ["world", "other", "first", "last", "p", "q", "c", "top", "bottom", "start", "many", "here", "there"]
theorem sc_agree_on : FnScope N_agree_on ["world", "other", "first", "last"] (defScope (top 21)) := ⟨rfl, rfl, rfl, by decide +kernel, rfl, by decide +kernel, by decide +kernel⟩
noncomputable def b_agree_on : Sv := (sSeq (sAsg (ptTup 3 (ptCons (ptName 4) (ptCons (ptName 5) (ptCons (ptName 6) ptNil)))) (fVar 0))
  (sSeq (sAsg (ptTup 3 (ptCons (ptName 7) (ptCons (ptName 8) (ptCons (ptName 9) ptNil)))) (fVar 1))
  (sSeq (sPar3 10 11 12 (fCons (fBin dAdd (fBin dSub (fVar 3) (fVar 2)) (fK (.int 1))) (fCons (fBin dAdd (fBin dMul (fVar 4) (fVar 2)) (fVar 6)) (fCons (fBin dAdd (fBin dMul (fVar 7) (fVar 2)) (fVar 9)) fNil))))
  (sSeq (sIf (fB (fBin dGtI (fCall F_greatest_of [] (fCons (fVar 10) (fCons (fVar 5) (fCons (fUn dNeg (fVar 7)) (fCons (fVar 8) (fCons (fVar 4) (fCons (fVar 11) fNil))))))) (fVar 12))) (sRet (fK (.bl false))) sNil)
  (sRet (fBin dLtI (fCall F_greatest_of [] (fCons (fVar 10) (fCons (fVar 5) (fCons (fVar 7) (fCons (fUn dNeg (fVar 8)) (fCons (fVar 4) (fCons (fVar 11) fNil))))))) (fBin dSub (fVar 8) (fVar 12))))))))
noncomputable def F_agree_on : FnSem := fDef 13 b_agree_on
theorem ok_agree_on (T : Txt K mg) : FnG P w K mg base 2 T.a_agree_on T.fd_agree_on ["world", "other", "first", "last"] F_agree_on := by
  refine fnG_mk (N := N_agree_on) (b := b_agree_on) T.F_agree_on sc_agree_on rfl (fun cdv A outer s H E hr gd tk => ?_)
  have hu := hr.units
  have hu65 : (A.deeper (envOfC "agree_on" (defScope (top 21)) s.heap.objs.size T.a_agree_on cdv)).units + 65 < cLine := by have := hr.un; omega
  have hu1 := hu_of hr
  have nd := sc_agree_on.nd
  unfold b_agree_on
  exact (qs_cons (qs_asg (q_var 0 (pv 0)) (qg_tup rfl (qgs_cons (qg_name (pg_name (i := 4) nd rfl (Or.inl rfl))) (qgs_cons (qg_name (pg_name (i := 5) nd rfl (Or.inl rfl))) (qgs_cons (qg_name (pg_name (i := 6) nd rfl (Or.inl rfl))) qgs_nil)))))
  (qs_cons (qs_asg (q_var 1 (pv 1)) (qg_tup rfl (qgs_cons (qg_name (pg_name (i := 7) nd rfl (Or.inl rfl))) (qgs_cons (qg_name (pg_name (i := 8) nd rfl (Or.inl rfl))) (qgs_cons (qg_name (pg_name (i := 9) nd rfl (Or.inl rfl))) qgs_nil)))))
  (qs_cons (qs_par3 (ps_par3 (i := 10) (j := 11) (l := 12) rfl nd rfl rfl rfl (by decide) (by decide) (by decide) rfl rfl rfl (qa_cons (q_op o_add p_add (q_op op_sub p_sub (q_var 3 (pv 3)) (q_var 2 (pv 2))) q_int) (qa_cons (q_op o_add p_add (q_op o_mul p_mul (q_var 4 (pv 4)) (q_var 2 (pv 2))) (q_var 6 (pv 6))) (qa_cons (q_op o_add p_add (q_op o_mul p_mul (q_var 7 (pv 7)) (q_var 2 (pv 2))) (q_var 9 (pv 9))) qa_nil))) rfl))
  (qs_cons (qs_if (qt_cmp op_gt p_gt (q_call (ok_greatest_of T) (hr.mono (by decide)) gd rfl T.g_greatest_of T.F_greatest_of.kp T.b_greatest_of (fun _ _ _ => .nil) rfl tk (qa_cons (q_var 10 (pv 10)) (qa_cons (q_var 5 (pv 5)) (qa_cons (q_un un_neg p_neg (q_var 7 (pv 7))) (qa_cons (q_var 8 (pv 8)) (qa_cons (q_var 4 (pv 4)) (qa_cons (q_var 11 (pv 11)) qa_nil)))))) (len_cons (len_cons (len_cons (len_cons (len_cons (len_cons (fun _ _ _ _ h => len_nil h)))))))) (q_var 12 (pv 12)) (nomark _)) (qs_one (qs_ret q_bl)) qs_nil)
  (qs_one (qs_ret (q_cmp op_lt p_lt (q_call (ok_greatest_of T) (hr.mono (by decide)) gd rfl T.g_greatest_of T.F_greatest_of.kp T.b_greatest_of (fun _ _ _ => .nil) rfl tk (qa_cons (q_var 10 (pv 10)) (qa_cons (q_var 5 (pv 5)) (qa_cons (q_var 7 (pv 7)) (qa_cons (q_un un_neg p_neg (q_var 8 (pv 8))) (qa_cons (q_var 4 (pv 4)) (qa_cons (q_var 11 (pv 11)) qa_nil)))))) (len_cons (len_cons (len_cons (len_cons (len_cons (len_cons (fun _ _ _ _ h => len_nil h)))))))) (q_op op_sub p_sub (q_var 8 (pv 8)) (q_var 12 (pv 12))) (nomark _))))))))
abbrev N_agree_along : List Str := ["world", "other", "event", "sign", "step", "ends"]
theorem sc_agree_along : FnScope N_agree_along ["world", "other", "event", "sign", "step"] (defScope (top 23)) := ⟨rfl, rfl, rfl, by decide +kernel, rfl, by decide +kernel, by decide +kernel⟩
noncomputable def b_agree_along : Sv := (sSeq (sSet 5 (fCB cSorted (fCons (fLst (fCons (fVar 2) (fCons (fBin dAdd (fVar 2) (fBin dMul (fVar 3) (fVar 4))) fNil))) fNil)))
  (sRet (fCall F_agree_on [] (fCons (fVar 0) (fCons (fVar 1) (fCons (fBin dIx (fVar 5) (fK (.int 0))) (fCons (fBin dIx (fVar 5) (fK (.int 1))) fNil)))))))
noncomputable def F_agree_along : FnSem := fDef 6 b_agree_along
theorem ok_agree_along (T : Txt K mg) : FnG P w K mg base 3 T.a_agree_along T.fd_agree_along ["world", "other", "event", "sign", "step"] F_agree_along := by
  refine fnG_mk (N := N_agree_along) (b := b_agree_along) T.F_agree_along sc_agree_along rfl (fun cdv A outer s H E hr gd tk => ?_)
  have hu := hr.units
  have hu65 : (A.deeper (envOfC "agree_along" (defScope (top 23)) s.heap.objs.size T.a_agree_along cdv)).units + 65 < cLine := by have := hr.un; omega
  have hu1 := hu_of hr
  have nd := sc_agree_along.nd
  unfold b_agree_along
  exact (qs_cons (qs_set (ps_set (i := 5) nd rfl (Or.inl rfl) (q_callB (o_sorted rfl hu) p_sorted rfl T.n_sorted (by decide +kernel) (qa_cons (q_lst (qa_cons (q_var 2 (pv 2)) (qa_cons (q_op o_add p_add (q_var 2 (pv 2)) (q_op o_mul p_mul (q_var 3 (pv 3)) (q_var 4 (pv 4)))) qa_nil))) qa_nil))))
  (qs_one (qs_ret (q_call (ok_agree_on T) (hr.mono (by decide)) gd rfl T.g_agree_on T.F_agree_on.kp T.b_agree_on (fun _ _ _ => .nil) rfl tk (qa_cons (q_var 0 (pv 0)) (qa_cons (q_var 1 (pv 1)) (qa_cons (q_ix (o_ix hu1) p_ix (q_var 5 (pv 5)) q_int (fun _ _ => rfl)) (qa_cons (q_ix (o_ix hu1) p_ix (q_var 5 (pv 5)) q_int (fun _ _ => rfl)) qa_nil)))) (len_cons (len_cons (len_cons (len_cons (fun _ _ _ _ h => len_nil h)))))))))
abbrev N_steps_agreed : List Str := ["world", "other", "event", "sign", "step", "low", "high", "middle"]
theorem sc_steps_agreed : FnScope N_steps_agreed ["world", "other", "event", "sign"] (defScope (top 22)) := ⟨rfl, rfl, rfl, by decide +kernel, rfl, by decide +kernel, by decide +kernel⟩
noncomputable def b_steps_agreed : Sv := (sSeq (sSet 4 (fK (.int 1)))
  (sSeq (sWhile (fTru (fCall F_agree_along [] (fCons (fVar 0) (fCons (fVar 1) (fCons (fVar 2) (fCons (fVar 3) (fCons (fVar 4) fNil))))))) (sSet 4 (fBin dMul (fVar 4) (fK (.int 2)))))
  (sSeq (sPar 5 6 (fCons (fBin dDiv (fVar 4) (fK (.int 2))) (fCons (fVar 4) fNil)))
  (sSeq (sWhile (fB (fBin dGtI (fBin dSub (fVar 6) (fVar 5)) (fK (.int 1)))) (sSeq (sSet 7 (fBin dDiv (fBin dAdd (fVar 5) (fVar 6)) (fK (.int 2))))
  (sIf (fTru (fCall F_agree_along [] (fCons (fVar 0) (fCons (fVar 1) (fCons (fVar 2) (fCons (fVar 3) (fCons (fVar 7) fNil))))))) (sSet 5 (fVar 7)) (sSet 6 (fVar 7)))))
  (sRet (fVar 5))))))
noncomputable def F_steps_agreed : FnSem := fDef 8 b_steps_agreed
theorem ok_steps_agreed (T : Txt K mg) : FnG P w K mg base 4 T.a_steps_agreed T.fd_steps_agreed ["world", "other", "event", "sign"] F_steps_agreed := by
  refine fnG_mk (N := N_steps_agreed) (b := b_steps_agreed) T.F_steps_agreed sc_steps_agreed rfl (fun cdv A outer s H E hr gd tk => ?_)
  have hu := hr.units
  have hu65 : (A.deeper (envOfC "steps_agreed" (defScope (top 22)) s.heap.objs.size T.a_steps_agreed cdv)).units + 65 < cLine := by have := hr.un; omega
  have hu1 := hu_of hr
  have nd := sc_steps_agreed.nd
  unfold b_steps_agreed
  exact (qs_cons (qs_set (ps_set (i := 4) nd rfl (Or.inl rfl) q_int))
  (qs_cons (qs_while (passes_of rfl) (qt_tru (q_call (ok_agree_along T) (hr.mono (by decide)) gd rfl T.g_agree_along T.F_agree_along.kp T.b_agree_along (fun _ _ _ => .nil) rfl tk (qa_cons (q_var 0 (pv 0)) (qa_cons (q_var 1 (pv 1)) (qa_cons (q_var 2 (pv 2)) (qa_cons (q_var 3 (pv 3)) (qa_cons (q_var 4 (pv 4)) qa_nil))))) (len_cons (len_cons (len_cons (len_cons (len_cons (fun _ _ _ _ h => len_nil h)))))))) (qs_one (qs_set (ps_set (i := 4) nd rfl (Or.inl rfl) (q_op o_mul p_mul (q_var 4 (pv 4)) q_int)))))
  (qs_cons (qs_par (ps_par (i := 5) (j := 6) rfl nd rfl rfl (by decide) rfl rfl (qa_cons (q_op o_div p_div (q_var 4 (pv 4)) q_int) (qa_cons (q_var 4 (pv 4)) qa_nil)) rfl))
  (qs_cons (qs_while (passes_of rfl) (qt_cmp op_gt p_gt (q_op op_sub p_sub (q_var 6 (pv 6)) (q_var 5 (pv 5))) q_int (nomark _)) (qs_cons (qs_set (ps_set (i := 7) nd rfl (Or.inl rfl) (q_op o_div p_div (q_op o_add p_add (q_var 5 (pv 5)) (q_var 6 (pv 6))) q_int)))
  (qs_one (qs_if (qt_tru (q_call (ok_agree_along T) (hr.mono (by decide)) gd rfl T.g_agree_along T.F_agree_along.kp T.b_agree_along (fun _ _ _ => .nil) rfl tk (qa_cons (q_var 0 (pv 0)) (qa_cons (q_var 1 (pv 1)) (qa_cons (q_var 2 (pv 2)) (qa_cons (q_var 3 (pv 3)) (qa_cons (q_var 7 (pv 7)) qa_nil))))) (len_cons (len_cons (len_cons (len_cons (len_cons (fun _ _ _ _ h => len_nil h)))))))) (qs_one (qs_set (ps_set (i := 5) nd rfl (Or.inl rfl) (q_var 7 (pv 7))))) (qs_one (qs_set (ps_set (i := 6) nd rfl (Or.inl rfl) (q_var 7 (pv 7)))))))))
  (qs_one (qs_ret (q_var 5 (pv 5))))))))
abbrev N_parting : List Str := ["world", "other", "first"]
theorem sc_parting : FnScope N_parting ["world", "other", "first"] (defScope (top 25)) := ⟨rfl, rfl, rfl, by decide +kernel, rfl, by decide +kernel, by decide +kernel⟩
noncomputable def b_parting : Sv := (sSeq (sExpr (fCall F_check_worlds [] (fCons (fVar 0) (fCons (fVar 1) fNil))))
  (sSeq (sExpr (fCall F_check_event [] (fCons (fVar 2) (fCons (fK (.str "first")) fNil))))
  (sSeq (sIf (fB (fBin dEq (fVar 0) (fVar 1))) (sRet (fK .non)) sNil)
  (sSeq (sIf (fB (fBin dNe (fCall F_day_among [] (fCons (fVar 0) (fCons (fVar 2) fNil))) (fCall F_day_among [] (fCons (fVar 1) (fCons (fVar 2) fNil))))) (sRet (fVar 2)) sNil)
  (sRet (fBin dAdd (fBin dAdd (fVar 2) (fCall F_steps_agreed [] (fCons (fVar 0) (fCons (fVar 1) (fCons (fVar 2) (fCons (fK (.int 1)) fNil)))))) (fK (.int 1))))))))
noncomputable def F_parting : FnSem := fDef 3 b_parting
theorem ok_parting (T : Txt K mg) : FnG P w K mg base 7 T.a_parting T.fd_parting ["world", "other", "first"] F_parting := by
  refine fnG_mk (N := N_parting) (b := b_parting) T.F_parting sc_parting rfl (fun cdv A outer s H E hr gd tk => ?_)
  have hu := hr.units
  have hu65 : (A.deeper (envOfC "parting" (defScope (top 25)) s.heap.objs.size T.a_parting cdv)).units + 65 < cLine := by have := hr.un; omega
  have hu1 := hu_of hr
  have nd := sc_parting.nd
  unfold b_parting
  exact (qs_cons (qs_expr (q_call (ok_check_worlds T) (hr.mono (by decide)) gd rfl T.g_check_worlds T.F_check_worlds.kp T.b_check_worlds (fun _ _ _ => .nil) rfl tk (qa_cons (q_var 0 (pv 0)) (qa_cons (q_var 1 (pv 1)) qa_nil)) (len_cons (len_cons (fun _ _ _ _ h => len_nil h)))))
  (qs_cons (qs_expr (q_call (ok_check_event T) (hr.mono (by decide)) gd rfl T.g_check_event T.F_check_event.kp T.b_check_event (fun _ _ _ => .nil) rfl tk (qa_cons (q_var 2 (pv 2)) (qa_cons q_str qa_nil)) (len_cons (len_cons (fun _ _ _ _ h => len_nil h)))))
  (qs_cons (qs_if (qt_cmp (o_eq hu) p_eq (q_var 0 (pv 0)) (q_var 1 (pv 1)) (nomark _)) (qs_one (qs_ret q_non)) qs_nil)
  (qs_cons (qs_if (qt_cmp (o_ne hu) p_ne (q_call (ok_day_among T) (hr.mono (by decide)) gd rfl T.g_day_among T.F_day_among.kp T.b_day_among (fun _ _ _ => .nil) rfl tk (qa_cons (q_var 0 (pv 0)) (qa_cons (q_var 2 (pv 2)) qa_nil)) (len_cons (len_cons (fun _ _ _ _ h => len_nil h)))) (q_call (ok_day_among T) (hr.mono (by decide)) gd rfl T.g_day_among T.F_day_among.kp T.b_day_among (fun _ _ _ => .nil) rfl tk (qa_cons (q_var 1 (pv 1)) (qa_cons (q_var 2 (pv 2)) qa_nil)) (len_cons (len_cons (fun _ _ _ _ h => len_nil h)))) (nomark _)) (qs_one (qs_ret (q_var 2 (pv 2)))) qs_nil)
  (qs_one (qs_ret (q_op o_add p_add (q_op o_add p_add (q_var 2 (pv 2)) (q_call (ok_steps_agreed T) (hr.mono (by decide)) gd rfl T.g_steps_agreed T.F_steps_agreed.kp T.b_steps_agreed (fun _ _ _ => .nil) rfl tk (qa_cons (q_var 0 (pv 0)) (qa_cons (q_var 1 (pv 1)) (qa_cons (q_var 2 (pv 2)) (qa_cons q_int qa_nil)))) (len_cons (len_cons (len_cons (len_cons (fun _ _ _ _ h => len_nil h))))))) q_int)))))))
abbrev N_together : List Str := ["world", "other", "event", "back"]
theorem sc_together : FnScope N_together ["world", "other", "event"] (defScope (top 26)) := ⟨rfl, rfl, rfl, by decide +kernel, rfl, by decide +kernel, by decide +kernel⟩
noncomputable def b_together : Sv := (sSeq (sExpr (fCall F_check_worlds [] (fCons (fVar 0) (fCons (fVar 1) fNil))))
  (sSeq (sExpr (fCall F_check_event [.str "event"] (fCons (fVar 2) fNil)))
  (sSeq (sIf (fB (fBin dEq (fVar 0) (fVar 1))) (sRet (fTup (fCons (fK .non) (fCons (fK .non) fNil)))) sNil)
  (sSeq (sIf (fB (fBin dNe (fCall F_day_among [] (fCons (fVar 0) (fCons (fVar 2) fNil))) (fCall F_day_among [] (fCons (fVar 1) (fCons (fVar 2) fNil))))) (sRet (fK .non)) sNil)
  (sSeq (sSet 3 (fCall F_steps_agreed [] (fCons (fVar 0) (fCons (fVar 1) (fCons (fVar 2) (fCons (fUn dNeg (fK (.int 1))) fNil))))))
  (sRet (fTup (fCons (fBin dSub (fVar 2) (fVar 3)) (fCons (fBin dAdd (fVar 2) (fCall F_steps_agreed [] (fCons (fVar 0) (fCons (fVar 1) (fCons (fVar 2) (fCons (fK (.int 1)) fNil)))))) fNil)))))))))
noncomputable def F_together : FnSem := fDef 4 b_together
theorem ok_together (T : Txt K mg) : FnG P w K mg base 7 T.a_together T.fd_together ["world", "other", "event"] F_together := by
  refine fnG_mk (N := N_together) (b := b_together) T.F_together sc_together rfl (fun cdv A outer s H E hr gd tk => ?_)
  have hu := hr.units
  have hu65 : (A.deeper (envOfC "together" (defScope (top 26)) s.heap.objs.size T.a_together cdv)).units + 65 < cLine := by have := hr.un; omega
  have hu1 := hu_of hr
  have nd := sc_together.nd
  unfold b_together
  exact (qs_cons (qs_expr (q_call (ok_check_worlds T) (hr.mono (by decide)) gd rfl T.g_check_worlds T.F_check_worlds.kp T.b_check_worlds (fun _ _ _ => .nil) rfl tk (qa_cons (q_var 0 (pv 0)) (qa_cons (q_var 1 (pv 1)) qa_nil)) (len_cons (len_cons (fun _ _ _ _ h => len_nil h)))))
  (qs_cons (qs_expr (q_call (ok_check_event T) (hr.mono (by decide)) gd rfl T.g_check_event T.F_check_event.kp T.b1_check_event (fun _ _ _ => .cons (.str _) (.nil)) rfl tk (qa_cons (q_var 2 (pv 2)) qa_nil) (len_cons (fun _ _ _ _ h => len_nil h))))
  (qs_cons (qs_if (qt_cmp (o_eq hu) p_eq (q_var 0 (pv 0)) (q_var 1 (pv 1)) (nomark _)) (qs_one (qs_ret (q_tup (qa_cons q_non (qa_cons q_non qa_nil))))) qs_nil)
  (qs_cons (qs_if (qt_cmp (o_ne hu) p_ne (q_call (ok_day_among T) (hr.mono (by decide)) gd rfl T.g_day_among T.F_day_among.kp T.b_day_among (fun _ _ _ => .nil) rfl tk (qa_cons (q_var 0 (pv 0)) (qa_cons (q_var 2 (pv 2)) qa_nil)) (len_cons (len_cons (fun _ _ _ _ h => len_nil h)))) (q_call (ok_day_among T) (hr.mono (by decide)) gd rfl T.g_day_among T.F_day_among.kp T.b_day_among (fun _ _ _ => .nil) rfl tk (qa_cons (q_var 1 (pv 1)) (qa_cons (q_var 2 (pv 2)) qa_nil)) (len_cons (len_cons (fun _ _ _ _ h => len_nil h)))) (nomark _)) (qs_one (qs_ret q_non)) qs_nil)
  (qs_cons (qs_set (ps_set (i := 3) nd rfl (Or.inl rfl) (q_call (ok_steps_agreed T) (hr.mono (by decide)) gd rfl T.g_steps_agreed T.F_steps_agreed.kp T.b_steps_agreed (fun _ _ _ => .nil) rfl tk (qa_cons (q_var 0 (pv 0)) (qa_cons (q_var 1 (pv 1)) (qa_cons (q_var 2 (pv 2)) (qa_cons (q_un un_neg p_neg q_int) qa_nil)))) (len_cons (len_cons (len_cons (len_cons (fun _ _ _ _ h => len_nil h))))))))
  (qs_one (qs_ret (q_tup (qa_cons (q_op op_sub p_sub (q_var 2 (pv 2)) (q_var 3 (pv 3))) (qa_cons (q_op o_add p_add (q_var 2 (pv 2)) (q_call (ok_steps_agreed T) (hr.mono (by decide)) gd rfl T.g_steps_agreed T.F_steps_agreed.kp T.b_steps_agreed (fun _ _ _ => .nil) rfl tk (qa_cons (q_var 0 (pv 0)) (qa_cons (q_var 1 (pv 1)) (qa_cons (q_var 2 (pv 2)) (qa_cons q_int qa_nil)))) (len_cons (len_cons (len_cons (len_cons (fun _ _ _ _ h => len_nil h))))))) qa_nil))))))))))
abbrev N__law_run : List Str := ["kind", "world", "other", "event"]
theorem sc__law_run : FnScope N__law_run ["kind", "world", "other", "event"] (defScope (top 39)) := ⟨rfl, rfl, rfl, by decide +kernel, rfl, by decide +kernel, by decide +kernel⟩
noncomputable def b__law_run : Sv := (sNoX (sRet (fTup (fCons (fK (.str "answer")) (fCons (fIf (fB (fBin dEq (fVar 0) (fK (.str "parting")))) (fCall F_parting [] (fCons (fVar 1) (fCons (fVar 2) (fCons (fVar 3) fNil)))) (fCall F_together [] (fCons (fVar 1) (fCons (fVar 2) (fCons (fVar 3) fNil))))) fNil)))))
noncomputable def F__law_run : FnSem := fDef 4 b__law_run
theorem ok__law_run (T : Txt K mg) : FnG P w K mg base 8 T.a__law_run T.fd__law_run ["kind", "world", "other", "event"] F__law_run := by
  refine fnG_mk (N := N__law_run) (b := b__law_run) T.F__law_run sc__law_run rfl (fun cdv A outer s H E hr gd tk => ?_)
  have hu := hr.units
  have hu65 : (A.deeper (envOfC "_law_run" (defScope (top 39)) s.heap.objs.size T.a__law_run cdv)).units + 65 < cLine := by have := hr.un; omega
  have hu1 := hu_of hr
  have nd := sc__law_run.nd
  unfold b__law_run
  exact (qs_one (qs_thru (qs_one (qs_ret (q_tup (qa_cons q_str (qa_cons (q_if (qt_cmp (o_eq hu) p_eq (q_var 0 (pv 0)) q_str (nomark _)) (q_call (ok_parting T) (hr.mono (by decide)) gd rfl T.g_parting T.F_parting.kp T.b_parting (fun _ _ _ => .nil) rfl takes0 (qa_cons (q_var 1 (pv 1)) (qa_cons (q_var 2 (pv 2)) (qa_cons (q_var 3 (pv 3)) qa_nil))) (len_cons (len_cons (len_cons (fun _ _ _ _ h => len_nil h))))) (q_call (ok_together T) (hr.mono (by decide)) gd rfl T.g_together T.F_together.kp T.b_together (fun _ _ _ => .nil) rfl takes0 (qa_cons (q_var 1 (pv 1)) (qa_cons (q_var 2 (pv 2)) (qa_cons (q_var 3 (pv 3)) qa_nil))) (len_cons (len_cons (len_cons (fun _ _ _ _ h => len_nil h)))))) qa_nil)))))))
abbrev N__law_plain : List Str := ["value", "left", "turn", "one"]
theorem sc__law_plain : FnScope N__law_plain ["value"] (defScope (top 32)) := ⟨rfl, rfl, rfl, by decide +kernel, rfl, by decide +kernel, by decide +kernel⟩
noncomputable def b__law_plain : Sv := (sSeq (sSet 1 (fLst (fCons (fVar 0) fNil)))
  (sSeq (sFor (fiRng (fCons (fBin dPow (fK (.int 10)) (fK (.int 6))) fNil)) (ptName 2) (sSeq (sIf (fB (fBin dEq (fCB cLen (fCons (fVar 1) fNil)) (fK (.int 0)))) (sRet (fK (.bl true))) sNil)
  (sSeq (sSet 3 (fMethL mPop (fVar 1) fNil))
  (sIf (fTru (fCB cIsi (fCons (fVar 3) (fCons (fK (.ty "tuple")) fNil)))) (sExpr (fMethL mExtend (fVar 1) (fCons (fCB cList (fCons (fVar 3) fNil)) fNil))) (sIf (fAndB (fB (fBin dNotN (fVar 3) (fK .non))) (fAndB (fNotB (fTru (fCB cIsi (fCons (fVar 3) (fCons (fK (.ty "str")) fNil))))) (fNotB (fTru (fCB cIsi (fCons (fVar 3) (fCons (fK (.ty "int")) fNil))))))) (sRet (fK (.bl false))) sNil)))))
  (sRet (fK (.bl false)))))
noncomputable def F__law_plain : FnSem := fDef 4 b__law_plain
theorem ok__law_plain (T : Txt K mg) : FnG P w K mg base 1 T.a__law_plain T.fd__law_plain ["value"] F__law_plain := by
  refine fnG_mk (N := N__law_plain) (b := b__law_plain) T.F__law_plain sc__law_plain rfl (fun cdv A outer s H E hr gd tk => ?_)
  have hu := hr.units
  have hu65 : (A.deeper (envOfC "_law_plain" (defScope (top 32)) s.heap.objs.size T.a__law_plain cdv)).units + 65 < cLine := by have := hr.un; omega
  have hu1 := hu_of hr
  have nd := sc__law_plain.nd
  unfold b__law_plain
  exact (qs_cons (qs_set (ps_set (i := 1) nd rfl (Or.inl rfl) (q_lst (qa_cons (q_var 0 (pv 0)) qa_nil))))
  (qs_cons (qs_for (passes_of rfl) rfl (qi_rng1 rfl T.n_range (qa_cons (q_op op_pow p_pow q_int q_int) qa_nil) rfl (len_cons (fun _ _ _ _ h => len_nil h))) (qg_name (pg_name (i := 2) nd rfl (Or.inl rfl))) (qs_cons (qs_if (qt_cmp (o_eq hu) p_eq (q_callB (o_len rfl) p_len rfl T.n_len (by decide +kernel) (qa_cons (q_var 1 (pv 1)) qa_nil)) q_int (nomark _)) (qs_one (qs_ret q_bl)) qs_nil)
  (qs_cons (qs_set (ps_set (i := 3) nd rfl (Or.inl rfl) (q_methL0 p_pop (pe_bm0 PySem.F.plainAttrs_list PySem.F.slot_list_pop PySem.F.type_list_pop mt_pop (q_var 1 (pv 1))))))
  (qs_one (qs_if (qt_tru (q_callB call_isi p_isi rfl T.n_isinstance (by decide +kernel) (qa_cons (q_var 3 (pv 3)) (qa_cons (q_ty rfl T.n_tuple (by decide +kernel)) qa_nil)))) (qs_one (qs_expr (q_methL PySem.F.slot_list_extend PySem.F.type_list_extend mt_extend p_extend (q_var 1 (pv 1)) (qa_cons (q_callTy (o_list rfl) p_list rfl T.n_list (by decide +kernel) (qa_cons (q_var 3 (pv 3)) qa_nil)) qa_nil) (pe_bm PySem.F.plainAttrs_list PySem.F.slot_list_extend PySem.F.type_list_extend mt_extend (q_var 1 (pv 1)) (qa_cons (q_callTy (o_list rfl) p_list rfl T.n_list (by decide +kernel) (qa_cons (q_var 3 (pv 3)) qa_nil)) qa_nil))))) (qs_one (qs_if (qt_w (qw_and (qt_cmp op_notN p_notN (q_var 3 (pv 3)) q_non (nomark _)) (qw_and (qt_not (qt_tru (q_callB call_isi p_isi rfl T.n_isinstance (by decide +kernel) (qa_cons (q_var 3 (pv 3)) (qa_cons (q_ty rfl T.n_str (by decide +kernel)) qa_nil))))) (qw_and1 (qt_not (qt_tru (q_callB call_isi p_isi rfl T.n_isinstance (by decide +kernel) (qa_cons (q_var 3 (pv 3)) (qa_cons (q_ty rfl T.n_int (by decide +kernel)) qa_nil))))))))) (qs_one (qs_ret q_bl)) qs_nil)))))))
  (qs_one (qs_ret q_bl))))
abbrev N__law_same : List Str := ["value", "due"]
theorem sc__law_same : FnScope N__law_same ["value", "due"] (defScope (top 33)) := ⟨rfl, rfl, rfl, by decide +kernel, rfl, by decide +kernel, by decide +kernel⟩
noncomputable def b__law_same : Sv := (sRet (fAnd (fCall F__law_plain [] (fCons (fVar 0) fNil)) (fBin dEq (fCB cRepr (fCons (fVar 0) fNil)) (fCB cRepr (fCons (fVar 1) fNil)))))
noncomputable def F__law_same : FnSem := fDef 2 b__law_same
theorem ok__law_same (T : Txt K mg) : FnG P w K mg base 2 T.a__law_same T.fd__law_same ["value", "due"] F__law_same := by
  refine fnG_mk (N := N__law_same) (b := b__law_same) T.F__law_same sc__law_same rfl (fun cdv A outer s H E hr gd tk => ?_)
  have hu := hr.units
  have hu65 : (A.deeper (envOfC "_law_same" (defScope (top 33)) s.heap.objs.size T.a__law_same cdv)).units + 65 < cLine := by have := hr.un; omega
  have hu1 := hu_of hr
  have nd := sc__law_same.nd
  unfold b__law_same
  exact (qs_one (qs_ret (q_and (q_call (ok__law_plain T) (hr.mono (by decide)) gd rfl T.g__law_plain T.F__law_plain.kp T.b__law_plain (fun _ _ _ => .nil) rfl tk (qa_cons (q_var 0 (pv 0)) qa_nil) (len_cons (fun _ _ _ _ h => len_nil h))) (q_one (q_cmp (o_eq hu) p_eq (q_callB (o_repr gd hu) p_repr rfl T.n_repr (by decide +kernel) (qa_cons (q_var 0 (pv 0)) qa_nil)) (q_callB (o_repr gd hu) p_repr rfl T.n_repr (by decide +kernel) (qa_cons (q_var 1 (pv 1)) qa_nil)) (nomark _))))))
abbrev N__law_pick : List Str := ["stream", "rows"]
theorem sc__law_pick : FnScope N__law_pick ["stream", "rows"] (defScope (top 30)) := ⟨rfl, rfl, rfl, by decide +kernel, rfl, by decide +kernel, by decide +kernel⟩
noncomputable def b__law_pick : Sv := (sRet (fBin dIx (fVar 1) (fCall F__law_next [] (fCons (fVar 0) (fCons (fCB cLen (fCons (fVar 1) fNil)) fNil)))))
noncomputable def F__law_pick : FnSem := fDef 2 b__law_pick
theorem ok__law_pick (T : Txt K mg) : FnG P w K mg base 2 T.a__law_pick T.fd__law_pick ["stream", "rows"] F__law_pick := by
  refine fnG_mk (N := N__law_pick) (b := b__law_pick) T.F__law_pick sc__law_pick rfl (fun cdv A outer s H E hr gd tk => ?_)
  have hu := hr.units
  have hu65 : (A.deeper (envOfC "_law_pick" (defScope (top 30)) s.heap.objs.size T.a__law_pick cdv)).units + 65 < cLine := by have := hr.un; omega
  have hu1 := hu_of hr
  have nd := sc__law_pick.nd
  unfold b__law_pick
  exact (qs_one (qs_ret (q_ix (o_ix hu1) p_ix (q_var 1 (pv 1)) (q_call (ok__law_next T) (hr.mono (by decide)) gd rfl T.g__law_next T.F__law_next.kp T.b__law_next (fun _ _ _ => .nil) rfl tk (qa_cons (q_var 0 (pv 0)) (qa_cons (q_callB (o_len rfl) p_len rfl T.n_len (by decide +kernel) (qa_cons (q_var 1 (pv 1)) qa_nil)) qa_nil)) (len_cons (len_cons (fun _ _ _ _ h => len_nil h)))) (fun _ _ => rfl))))
abbrev N__law_inverse : List Str := ["p", "q", "turn", "one", "other", "low", "high", "whole"]
theorem sc__law_inverse : FnScope N__law_inverse ["p", "q"] (defScope (top 43)) := ⟨rfl, rfl, rfl, by decide +kernel, rfl, by decide +kernel, by decide +kernel⟩
noncomputable def b__law_inverse : Sv := (sSeq (sAsg (ptTup 4 (ptCons (ptName 3) (ptCons (ptName 4) (ptCons (ptName 5) (ptCons (ptName 6) ptNil))))) (fTup (fCons (fVar 1) (fCons (fBin dMod (fCB cInt (fCons (fVar 0) fNil)) (fVar 1)) (fCons (fK (.int 0)) (fCons (fK (.int 1)) fNil))))))
  (sSeq (sFor (fiRng (fCons (fK (.int 10000)) fNil)) (ptName 2) (sSeq (sIf (fB (fBin dLeI (fVar 4) (fK (.int 1)))) (sRet (fBin dMod (fCB cInt (fCons (fVar 6) fNil)) (fVar 1))) sNil)
  (sSeq (sSet 7 (fBin dDiv (fVar 3) (fVar 4)))
  (sSeq (sPar 3 4 (fCons (fVar 4) (fCons (fBin dSub (fVar 3) (fBin dMul (fVar 7) (fVar 4))) fNil)))
  (sPar 5 6 (fCons (fVar 6) (fCons (fBin dSub (fVar 5) (fBin dMul (fVar 7) (fVar 6))) fNil)))))))
  (sRet (fK (.int 0)))))
noncomputable def F__law_inverse : FnSem := fDef 8 b__law_inverse
theorem ok__law_inverse (T : Txt K mg) : FnG P w K mg base 1 T.a__law_inverse T.fd__law_inverse ["p", "q"] F__law_inverse := by
  refine fnG_mk (N := N__law_inverse) (b := b__law_inverse) T.F__law_inverse sc__law_inverse rfl (fun cdv A outer s H E hr gd tk => ?_)
  have hu := hr.units
  have hu65 : (A.deeper (envOfC "_law_inverse" (defScope (top 43)) s.heap.objs.size T.a__law_inverse cdv)).units + 65 < cLine := by have := hr.un; omega
  have hu1 := hu_of hr
  have nd := sc__law_inverse.nd
  unfold b__law_inverse
  exact (qs_cons (qs_asg (q_tup (qa_cons (q_var 1 (pv 1)) (qa_cons (q_op op_modN p_mod (q_callTy call_int1 p_int rfl T.n_int (by decide +kernel) (qa_cons (q_var 0 (pv 0)) qa_nil)) (q_var 1 (pv 1))) (qa_cons q_int (qa_cons q_int qa_nil))))) (qg_tup rfl (qgs_cons (qg_name (pg_name (i := 3) nd rfl (Or.inl rfl))) (qgs_cons (qg_name (pg_name (i := 4) nd rfl (Or.inl rfl))) (qgs_cons (qg_name (pg_name (i := 5) nd rfl (Or.inl rfl))) (qgs_cons (qg_name (pg_name (i := 6) nd rfl (Or.inl rfl))) qgs_nil))))))
  (qs_cons (qs_for (passes_of rfl) rfl (qi_rng1 rfl T.n_range (qa_cons q_int qa_nil) rfl (len_cons (fun _ _ _ _ h => len_nil h))) (qg_name (pg_name (i := 2) nd rfl (Or.inl rfl))) (qs_cons (qs_if (qt_cmp op_le p_le (q_var 4 (pv 4)) q_int (nomark _)) (qs_one (qs_ret (q_op op_modN p_mod (q_callTy call_int1 p_int rfl T.n_int (by decide +kernel) (qa_cons (q_var 6 (pv 6)) qa_nil)) (q_var 1 (pv 1))))) qs_nil)
  (qs_cons (qs_set (ps_set (i := 7) nd rfl (Or.inl rfl) (q_op o_div p_div (q_var 3 (pv 3)) (q_var 4 (pv 4)))))
  (qs_cons (qs_par (ps_par (i := 3) (j := 4) rfl nd rfl rfl (by decide) rfl rfl (qa_cons (q_var 4 (pv 4)) (qa_cons (q_op op_sub p_sub (q_var 3 (pv 3)) (q_op o_mul p_mul (q_var 7 (pv 7)) (q_var 4 (pv 4)))) qa_nil)) rfl))
  (qs_one (qs_par (ps_par (i := 5) (j := 6) rfl nd rfl rfl (by decide) rfl rfl (qa_cons (q_var 6 (pv 6)) (qa_cons (q_op op_sub p_sub (q_var 5 (pv 5)) (q_op o_mul p_mul (q_var 7 (pv 7)) (q_var 6 (pv 6)))) qa_nil)) rfl)))))))
  (qs_one (qs_ret q_int))))
abbrev N__law_day : List Str := ["world", "event"]
theorem sc__law_day : FnScope N__law_day ["world", "event"] (defScope (top 37)) := ⟨rfl, rfl, rfl, by decide +kernel, rfl, by decide +kernel, by decide +kernel⟩
noncomputable def b__law_day : Sv := (sRet (fBin dDiv (fBin dAdd (fBin dMul (fBin dIx (fVar 0) (fK (.int 0))) (fVar 1)) (fBin dIx (fVar 0) (fK (.int 2)))) (fBin dIx (fVar 0) (fK (.int 1)))))
noncomputable def F__law_day : FnSem := fDef 2 b__law_day
theorem ok__law_day (T : Txt K mg) : FnG P w K mg base 1 T.a__law_day T.fd__law_day ["world", "event"] F__law_day := by
  refine fnG_mk (N := N__law_day) (b := b__law_day) T.F__law_day sc__law_day rfl (fun cdv A outer s H E hr gd tk => ?_)
  have hu := hr.units
  have hu65 : (A.deeper (envOfC "_law_day" (defScope (top 37)) s.heap.objs.size T.a__law_day cdv)).units + 65 < cLine := by have := hr.un; omega
  have hu1 := hu_of hr
  have nd := sc__law_day.nd
  unfold b__law_day
  exact (qs_one (qs_ret (q_op o_div p_div (q_op o_add p_add (q_op o_mul p_mul (q_ix (o_ix hu1) p_ix (q_var 0 (pv 0)) q_int (fun _ _ => rfl)) (q_var 1 (pv 1))) (q_ix (o_ix hu1) p_ix (q_var 0 (pv 0)) q_int (fun _ _ => rfl))) (q_ix (o_ix hu1) p_ix (q_var 0 (pv 0)) q_int (fun _ _ => rfl)))))
abbrev N__law_agree : List Str := ["world", "other", "event"]
theorem sc__law_agree : FnScope N__law_agree ["world", "other", "event"] (defScope (top 40)) := ⟨rfl, rfl, rfl, by decide +kernel, rfl, by decide +kernel, by decide +kernel⟩
noncomputable def b__law_agree : Sv := (sRet (fBin dEq (fCall F__law_day [] (fCons (fVar 0) (fCons (fVar 2) fNil))) (fCall F__law_day [] (fCons (fVar 1) (fCons (fVar 2) fNil)))))
noncomputable def F__law_agree : FnSem := fDef 3 b__law_agree
theorem ok__law_agree (T : Txt K mg) : FnG P w K mg base 2 T.a__law_agree T.fd__law_agree ["world", "other", "event"] F__law_agree := by
  refine fnG_mk (N := N__law_agree) (b := b__law_agree) T.F__law_agree sc__law_agree rfl (fun cdv A outer s H E hr gd tk => ?_)
  have hu := hr.units
  have hu65 : (A.deeper (envOfC "_law_agree" (defScope (top 40)) s.heap.objs.size T.a__law_agree cdv)).units + 65 < cLine := by have := hr.un; omega
  have hu1 := hu_of hr
  have nd := sc__law_agree.nd
  unfold b__law_agree
  exact (qs_one (qs_ret (q_cmp (o_eq hu) p_eq (q_call (ok__law_day T) (hr.mono (by decide)) gd rfl T.g__law_day T.F__law_day.kp T.b__law_day (fun _ _ _ => .nil) rfl tk (qa_cons (q_var 0 (pv 0)) (qa_cons (q_var 2 (pv 2)) qa_nil)) (len_cons (len_cons (fun _ _ _ _ h => len_nil h)))) (q_call (ok__law_day T) (hr.mono (by decide)) gd rfl T.g__law_day T.F__law_day.kp T.b__law_day (fun _ _ _ => .nil) rfl tk (qa_cons (q_var 1 (pv 1)) (qa_cons (q_var 2 (pv 2)) qa_nil)) (len_cons (len_cons (fun _ _ _ _ h => len_nil h)))) (nomark _))))
abbrev N__law_is_integer : List Str := ["actual"]
theorem sc__law_is_integer : FnScope N__law_is_integer ["actual"] (defScope (top 31)) := ⟨rfl, rfl, rfl, by decide +kernel, rfl, by decide +kernel, by decide +kernel⟩
noncomputable def b__law_is_integer : Sv := (sRet (fAnd (fCB cIsi (fCons (fVar 0) (fCons (fK (.ty "int")) fNil))) (fNot (fCB cIsi (fCons (fVar 0) (fCons (fK (.ty "bool")) fNil))))))
noncomputable def F__law_is_integer : FnSem := fDef 1 b__law_is_integer
theorem ok__law_is_integer (T : Txt K mg) : FnG P w K mg base 1 T.a__law_is_integer T.fd__law_is_integer ["actual"] F__law_is_integer := by
  refine fnG_mk (N := N__law_is_integer) (b := b__law_is_integer) T.F__law_is_integer sc__law_is_integer rfl (fun cdv A outer s H E hr gd tk => ?_)
  have hu := hr.units
  have hu65 : (A.deeper (envOfC "_law_is_integer" (defScope (top 31)) s.heap.objs.size T.a__law_is_integer cdv)).units + 65 < cLine := by have := hr.un; omega
  have hu1 := hu_of hr
  have nd := sc__law_is_integer.nd
  unfold b__law_is_integer
  exact (qs_one (qs_ret (q_and (q_callB call_isi p_isi rfl T.n_isinstance (by decide +kernel) (qa_cons (q_var 0 (pv 0)) (qa_cons (q_ty rfl T.n_int (by decide +kernel)) qa_nil))) (q_one (q_not (q_callB call_isi p_isi rfl T.n_isinstance (by decide +kernel) (qa_cons (q_var 0 (pv 0)) (qa_cons (q_ty rfl T.n_bool (by decide +kernel)) qa_nil))))))))
abbrev N__law_is_world : List Str := ["value", "p", "q", "c", "number"]
theorem sc__law_is_world : FnScope N__law_is_world ["value"] (defScope (top 38)) := ⟨rfl, rfl, rfl, by decide +kernel, rfl, by decide +kernel, by decide +kernel⟩
noncomputable def b__law_is_world : Sv := (sSeq (sIf (fOrB (fNotB (fTru (fCB cIsi (fCons (fVar 0) (fCons (fK (.ty "tuple")) fNil))))) (fOrB (fB (fBin dNe (fCB cLen (fCons (fVar 0) fNil)) (fK (.int 3)))) (fNotB (fTru (fCB cAll (fCons (fLc (fiSeq (fVar 0)) (ptName 4) tYesB (fCall F__law_is_integer [] (fCons (fVar 4) fNil)) [4]) fNil)))))) (sRet (fK (.bl false))) sNil)
  (sSeq (sAsg (ptTup 3 (ptCons (ptName 1) (ptCons (ptName 2) (ptCons (ptName 3) ptNil)))) (fVar 0))
  (sRet (fAnd (fChain dLeI dLeI (fK (.int 1)) (fVar 2) (fBin dPow (fK (.int 10)) (fK (.int 60)))) (fAnd (fBin dLeI (fCB cAbs (fCons (fVar 1) fNil)) (fBin dPow (fK (.int 10)) (fK (.int 60)))) (fAnd (fBin dLeI (fCB cAbs (fCons (fVar 3) fNil)) (fBin dPow (fK (.int 10)) (fK (.int 60)))) (fBin dEq (fCall F__law_divisor [] (fCons (fVar 1) (fCons (fVar 2) fNil))) (fK (.int 1)))))))))
noncomputable def F__law_is_world : FnSem := fDef 5 b__law_is_world
theorem ok__law_is_world (T : Txt K mg) : FnG P w K mg base 2 T.a__law_is_world T.fd__law_is_world ["value"] F__law_is_world := by
  refine fnG_mk (N := N__law_is_world) (b := b__law_is_world) T.F__law_is_world sc__law_is_world rfl (fun cdv A outer s H E hr gd tk => ?_)
  have hu := hr.units
  have hu65 : (A.deeper (envOfC "_law_is_world" (defScope (top 38)) s.heap.objs.size T.a__law_is_world cdv)).units + 65 < cLine := by have := hr.un; omega
  have hu1 := hu_of hr
  have nd := sc__law_is_world.nd
  unfold b__law_is_world
  exact (qs_cons (qs_if (qt_w (qw_or (qt_not (qt_tru (q_callB call_isi p_isi rfl T.n_isinstance (by decide +kernel) (qa_cons (q_var 0 (pv 0)) (qa_cons (q_ty rfl T.n_tuple (by decide +kernel)) qa_nil))))) (qw_or (qt_cmp (o_ne hu) p_ne (q_callB (o_len rfl) p_len rfl T.n_len (by decide +kernel) (qa_cons (q_var 0 (pv 0)) qa_nil)) q_int (nomark _)) (qw_or1 (qt_not (qt_tru (q_callB (cr_all rfl) p_all rfl T.n_all (by decide +kernel) (qa_cons (q_lc (own := [("number", 4)]) (ws := [4]) rfl nd (qi_seq (q_var 0 (pv 0))) (blkOk_by (N := N__law_is_world) (sc := defScope (top 38)) (by decide +kernel)) (fun _ _ _ _ _ => (qgw_name (pg_name (i := 4) nd rfl (Or.inl rfl)))) (fun _ _ _ _ _ => qts_nil) (fun _ _ _ _ _ => (q_call (ok__law_is_integer T) (hr.mono (by decide)) gd rfl T.g__law_is_integer T.F__law_is_integer.kp T.b__law_is_integer (fun _ _ _ => .nil) rfl takes0 (qa_cons (q_var 4 (pv 4)) qa_nil) (len_cons (fun _ _ _ _ h => len_nil h)))) (by decide)) qa_nil)))))))) (qs_one (qs_ret q_bl)) qs_nil)
  (qs_cons (qs_asg (q_var 0 (pv 0)) (qg_tup rfl (qgs_cons (qg_name (pg_name (i := 1) nd rfl (Or.inl rfl))) (qgs_cons (qg_name (pg_name (i := 2) nd rfl (Or.inl rfl))) (qgs_cons (qg_name (pg_name (i := 3) nd rfl (Or.inl rfl))) qgs_nil)))))
  (qs_one (qs_ret (q_and (q_chain op_le op_le p_le p_le q_int (q_var 2 (pv 2)) (q_op op_pow p_pow q_int q_int)) (q_and (q_cmp op_le p_le (q_callB call_abs p_abs rfl T.n_abs (by decide +kernel) (qa_cons (q_var 1 (pv 1)) qa_nil)) (q_op op_pow p_pow q_int q_int) (nomark _)) (q_and (q_cmp op_le p_le (q_callB call_abs p_abs rfl T.n_abs (by decide +kernel) (qa_cons (q_var 3 (pv 3)) qa_nil)) (q_op op_pow p_pow q_int q_int) (nomark _)) (q_one (q_cmp (o_eq hu) p_eq (q_call (ok__law_divisor T) (hr.mono (by decide)) gd rfl T.g__law_divisor T.F__law_divisor.kp T.b__law_divisor (fun _ _ _ => .nil) rfl tk (qa_cons (q_var 1 (pv 1)) (qa_cons (q_var 2 (pv 2)) qa_nil)) (len_cons (len_cons (fun _ _ _ _ h => len_nil h)))) q_int (nomark _))))))))))
abbrev N__law_great_holds : List Str := ["stream", "q", "less", "world", "pace", "event", "start", "other", "value", "at", "p", "first", "last", "one"]
theorem sc__law_great_holds : FnScope N__law_great_holds ["stream"] (defScope (top 44)) := ⟨rfl, rfl, rfl, by decide +kernel, rfl, by decide +kernel, by decide +kernel⟩
noncomputable def b__law_great_holds : Sv := (sSeq (sSet 1 (fBin dAdd (fCall F__law_pick [] (fCons (fVar 0) (fCons (fLst (fCons (fBin dPow (fK (.int 10)) (fK (.int 9))) (fCons (fBin dPow (fK (.int 10)) (fK (.int 15))) (fCons (fBin dPow (fK (.int 10)) (fK (.int 27))) fNil)))) fNil))) (fCall F__law_next [] (fCons (fVar 0) (fCons (fBin dPow (fK (.int 10)) (fK (.int 9))) fNil)))))
  (sSeq (sAsg (ptTup 2 (ptCons (ptName 10) (ptCons (ptName 1) ptNil))) (fCall F__law_lowest [] (fCons (fBin dAdd (fBin dAdd (fBin dMul (fCall F__law_next [] (fCons (fVar 0) (fCons (fBin dPow (fK (.int 10)) (fK (.int 9))) fNil))) (fBin dPow (fK (.int 10)) (fK (.int 8)))) (fCall F__law_next [] (fCons (fVar 0) (fCons (fBin dPow (fK (.int 10)) (fK (.int 8))) fNil)))) (fK (.int 1))) (fCons (fVar 1) fNil))))
  (sSeq (sSet 2 (fIf (fB (fBin dGtI (fVar 1) (fK (.int 1)))) (fCall F__law_inverse [] (fCons (fVar 10) (fCons (fVar 1) fNil))) (fK (.int 1))))
  (sSeq (sSet 3 (fTup (fCons (fVar 10) (fCons (fVar 1) (fCons (fIf (fB (fBin dLtI (fVar 1) (fBin dPow (fK (.int 10)) (fK (.int 18))))) (fCall F__law_next [] (fCons (fVar 0) (fCons (fVar 1) fNil))) (fCall F__law_next [] (fCons (fVar 0) (fCons (fBin dPow (fK (.int 10)) (fK (.int 18))) fNil)))) fNil)))))
  (sSeq (sSet 4 (fTup (fCons (fBin dDiv (fCB cInt (fCons (fBin dSub (fBin dMul (fVar 10) (fVar 2)) (fK (.int 1))) fNil)) (fVar 1)) (fCons (fVar 2) fNil))))
  (sSeq (sSet 5 (fCall F__law_next [] (fCons (fVar 0) (fCons (fBin dPow (fK (.int 10)) (fK (.int 9))) fNil))))
  (sSeq (sSet 6 (fBin dAdd (fBin dSub (fBin dMul (fCall F__law_day [] (fCons (fVar 3) (fCons (fVar 5) fNil))) (fVar 2)) (fBin dMul (fBin dIx (fVar 4) (fK (.int 0))) (fVar 5))) (fCall F__law_next [] (fCons (fVar 0) (fCons (fBin dPow (fK (.int 10)) (fK (.int 6))) fNil)))))
  (sSeq (sSet 7 (fTup (fCons (fBin dIx (fVar 4) (fK (.int 0))) (fCons (fBin dIx (fVar 4) (fK (.int 1))) (fCons (fVar 6) fNil)))))
  (sSeq (sIf (fOrB (fB (fBin dLtI (fVar 2) (fK (.int 1)))) (fOrB (fNotB (fTru (fCall F__law_is_world [] (fCons (fVar 3) fNil)))) (fNotB (fTru (fCall F__law_is_world [] (fCons (fVar 7) fNil)))))) (sRet (fK (.bl true))) sNil)
  (sSeq (sSet 8 (fCall F__law_run [] (fCons (fK (.str "together")) (fCons (fVar 3) (fCons (fVar 7) (fCons (fVar 5) fNil))))))
  (sSeq (sIf (fOrB (fB (fBin dNe (fBin dIx (fVar 8) (fK (.int 0))) (fK (.str "answer")))) (fNotB (fTru (fCall F__law_plain [] (fCons (fBin dIx (fVar 8) (fK (.int 1))) fNil))))) (sRet (fK (.bl false))) sNil)
  (sSeq (sIf (fNotB (fTru (fCall F__law_agree [] (fCons (fVar 3) (fCons (fVar 7) (fCons (fVar 5) fNil)))))) (sRet (fAnd (fBin dIsN (fBin dIx (fVar 8) (fK (.int 1))) (fK .non)) (fCall F__law_same [] (fCons (fCall F__law_run [] (fCons (fK (.str "parting")) (fCons (fVar 3) (fCons (fVar 7) (fCons (fVar 5) fNil))))) (fCons (fTup (fCons (fK (.str "answer")) (fCons (fVar 5) fNil))) fNil))))) sNil)
  (sSeq (sIf (fOrB (fNotB (fTru (fCB cIsi (fCons (fBin dIx (fVar 8) (fK (.int 1))) (fCons (fK (.ty "tuple")) fNil))))) (fOrB (fB (fBin dNe (fCB cLen (fCons (fBin dIx (fVar 8) (fK (.int 1))) fNil)) (fK (.int 2)))) (fNotB (fTru (fCB cAll (fCons (fLc (fiSeq (fBin dIx (fVar 8) (fK (.int 1)))) (ptName 13) tYesB (fCall F__law_is_integer [] (fCons (fVar 13) fNil)) [13]) fNil)))))) (sRet (fK (.bl false))) sNil)
  (sSeq (sAsg (ptTup 2 (ptCons (ptName 11) (ptCons (ptName 12) ptNil))) (fBin dIx (fVar 8) (fK (.int 1))))
  (sSeq (sIf (fOrB (fNotB (fB (fChain dLeI dLeI (fVar 11) (fVar 5) (fVar 12)))) (fOrB (fTru (fCall F__law_agree [] (fCons (fVar 3) (fCons (fVar 7) (fCons (fBin dSub (fVar 11) (fK (.int 1))) fNil))))) (fTru (fCall F__law_agree [] (fCons (fVar 3) (fCons (fVar 7) (fCons (fBin dAdd (fVar 12) (fK (.int 1))) fNil))))))) (sRet (fK (.bl false))) sNil)
  (sSeq (sFor (fiRng (fCons (fK (.int 12)) fNil)) (ptName 9) (sIf (fNotB (fTru (fCall F__law_agree [] (fCons (fVar 3) (fCons (fVar 7) (fCons (fBin dAdd (fVar 11) (fBin dDiv (fBin dMul (fBin dSub (fVar 12) (fVar 11)) (fVar 9)) (fK (.int 11)))) fNil)))))) (sRet (fK (.bl false))) sNil))
  (sSeq (sIf (fB (fBin dGtI (fBin dAdd (fBin dSub (fVar 12) (fVar 11)) (fK (.int 1))) (fBin dSub (fBin dAdd (fBin dIx (fVar 3) (fK (.int 1))) (fBin dIx (fVar 7) (fK (.int 1)))) (fCall F__law_divisor [] (fCons (fBin dIx (fVar 3) (fK (.int 1))) (fCons (fBin dIx (fVar 7) (fK (.int 1))) fNil)))))) (sRet (fK (.bl false))) sNil)
  (sRet (fCall F__law_same [] (fCons (fCall F__law_run [] (fCons (fK (.str "parting")) (fCons (fVar 3) (fCons (fVar 7) (fCons (fVar 5) fNil))))) (fCons (fTup (fCons (fK (.str "answer")) (fCons (fBin dAdd (fVar 12) (fK (.int 1))) fNil))) fNil)))))))))))))))))))))
noncomputable def F__law_great_holds : FnSem := fDef 14 b__law_great_holds
theorem ok__law_great_holds (T : Txt K mg) : FnG P w K mg base 9 T.a__law_great_holds T.fd__law_great_holds ["stream"] F__law_great_holds := by
  refine fnG_mk (N := N__law_great_holds) (b := b__law_great_holds) T.F__law_great_holds sc__law_great_holds rfl (fun cdv A outer s H E hr gd tk => ?_)
  have hu := hr.units
  have hu65 : (A.deeper (envOfC "_law_great_holds" (defScope (top 44)) s.heap.objs.size T.a__law_great_holds cdv)).units + 65 < cLine := by have := hr.un; omega
  have hu1 := hu_of hr
  have nd := sc__law_great_holds.nd
  unfold b__law_great_holds
  exact (qs_cons (qs_set (ps_set (i := 1) nd rfl (Or.inl rfl) (q_op o_add p_add (q_call (ok__law_pick T) (hr.mono (by decide)) gd rfl T.g__law_pick T.F__law_pick.kp T.b__law_pick (fun _ _ _ => .nil) rfl tk (qa_cons (q_var 0 (pv 0)) (qa_cons (q_lst (qa_cons (q_op op_pow p_pow q_int q_int) (qa_cons (q_op op_pow p_pow q_int q_int) (qa_cons (q_op op_pow p_pow q_int q_int) qa_nil)))) qa_nil)) (len_cons (len_cons (fun _ _ _ _ h => len_nil h)))) (q_call (ok__law_next T) (hr.mono (by decide)) gd rfl T.g__law_next T.F__law_next.kp T.b__law_next (fun _ _ _ => .nil) rfl tk (qa_cons (q_var 0 (pv 0)) (qa_cons (q_op op_pow p_pow q_int q_int) qa_nil)) (len_cons (len_cons (fun _ _ _ _ h => len_nil h)))))))
  (qs_cons (qs_asg (q_call (ok__law_lowest T) (hr.mono (by decide)) gd rfl T.g__law_lowest T.F__law_lowest.kp T.b__law_lowest (fun _ _ _ => .nil) rfl tk (qa_cons (q_op o_add p_add (q_op o_add p_add (q_op o_mul p_mul (q_call (ok__law_next T) (hr.mono (by decide)) gd rfl T.g__law_next T.F__law_next.kp T.b__law_next (fun _ _ _ => .nil) rfl tk (qa_cons (q_var 0 (pv 0)) (qa_cons (q_op op_pow p_pow q_int q_int) qa_nil)) (len_cons (len_cons (fun _ _ _ _ h => len_nil h)))) (q_op op_pow p_pow q_int q_int)) (q_call (ok__law_next T) (hr.mono (by decide)) gd rfl T.g__law_next T.F__law_next.kp T.b__law_next (fun _ _ _ => .nil) rfl tk (qa_cons (q_var 0 (pv 0)) (qa_cons (q_op op_pow p_pow q_int q_int) qa_nil)) (len_cons (len_cons (fun _ _ _ _ h => len_nil h))))) q_int) (qa_cons (q_var 1 (pv 1)) qa_nil)) (len_cons (len_cons (fun _ _ _ _ h => len_nil h)))) (qg_tup rfl (qgs_cons (qg_name (pg_name (i := 10) nd rfl (Or.inl rfl))) (qgs_cons (qg_name (pg_name (i := 1) nd rfl (Or.inl rfl))) qgs_nil))))
  (qs_cons (qs_set (ps_set (i := 2) nd rfl (Or.inl rfl) (q_if (qt_cmp op_gt p_gt (q_var 1 (pv 1)) q_int (nomark _)) (q_call (ok__law_inverse T) (hr.mono (by decide)) gd rfl T.g__law_inverse T.F__law_inverse.kp T.b__law_inverse (fun _ _ _ => .nil) rfl tk (qa_cons (q_var 10 (pv 10)) (qa_cons (q_var 1 (pv 1)) qa_nil)) (len_cons (len_cons (fun _ _ _ _ h => len_nil h)))) q_int)))
  (qs_cons (qs_set (ps_set (i := 3) nd rfl (Or.inl rfl) (q_tup (qa_cons (q_var 10 (pv 10)) (qa_cons (q_var 1 (pv 1)) (qa_cons (q_if (qt_cmp op_lt p_lt (q_var 1 (pv 1)) (q_op op_pow p_pow q_int q_int) (nomark _)) (q_call (ok__law_next T) (hr.mono (by decide)) gd rfl T.g__law_next T.F__law_next.kp T.b__law_next (fun _ _ _ => .nil) rfl tk (qa_cons (q_var 0 (pv 0)) (qa_cons (q_var 1 (pv 1)) qa_nil)) (len_cons (len_cons (fun _ _ _ _ h => len_nil h)))) (q_call (ok__law_next T) (hr.mono (by decide)) gd rfl T.g__law_next T.F__law_next.kp T.b__law_next (fun _ _ _ => .nil) rfl tk (qa_cons (q_var 0 (pv 0)) (qa_cons (q_op op_pow p_pow q_int q_int) qa_nil)) (len_cons (len_cons (fun _ _ _ _ h => len_nil h))))) qa_nil))))))
  (qs_cons (qs_set (ps_set (i := 4) nd rfl (Or.inl rfl) (q_tup (qa_cons (q_op o_div p_div (q_callTy call_int1 p_int rfl T.n_int (by decide +kernel) (qa_cons (q_op op_sub p_sub (q_op o_mul p_mul (q_var 10 (pv 10)) (q_var 2 (pv 2))) q_int) qa_nil)) (q_var 1 (pv 1))) (qa_cons (q_var 2 (pv 2)) qa_nil)))))
  (qs_cons (qs_set (ps_set (i := 5) nd rfl (Or.inl rfl) (q_call (ok__law_next T) (hr.mono (by decide)) gd rfl T.g__law_next T.F__law_next.kp T.b__law_next (fun _ _ _ => .nil) rfl tk (qa_cons (q_var 0 (pv 0)) (qa_cons (q_op op_pow p_pow q_int q_int) qa_nil)) (len_cons (len_cons (fun _ _ _ _ h => len_nil h))))))
  (qs_cons (qs_set (ps_set (i := 6) nd rfl (Or.inl rfl) (q_op o_add p_add (q_op op_sub p_sub (q_op o_mul p_mul (q_call (ok__law_day T) (hr.mono (by decide)) gd rfl T.g__law_day T.F__law_day.kp T.b__law_day (fun _ _ _ => .nil) rfl tk (qa_cons (q_var 3 (pv 3)) (qa_cons (q_var 5 (pv 5)) qa_nil)) (len_cons (len_cons (fun _ _ _ _ h => len_nil h)))) (q_var 2 (pv 2))) (q_op o_mul p_mul (q_ix (o_ix hu1) p_ix (q_var 4 (pv 4)) q_int (fun _ _ => rfl)) (q_var 5 (pv 5)))) (q_call (ok__law_next T) (hr.mono (by decide)) gd rfl T.g__law_next T.F__law_next.kp T.b__law_next (fun _ _ _ => .nil) rfl tk (qa_cons (q_var 0 (pv 0)) (qa_cons (q_op op_pow p_pow q_int q_int) qa_nil)) (len_cons (len_cons (fun _ _ _ _ h => len_nil h)))))))
  (qs_cons (qs_set (ps_set (i := 7) nd rfl (Or.inl rfl) (q_tup (qa_cons (q_ix (o_ix hu1) p_ix (q_var 4 (pv 4)) q_int (fun _ _ => rfl)) (qa_cons (q_ix (o_ix hu1) p_ix (q_var 4 (pv 4)) q_int (fun _ _ => rfl)) (qa_cons (q_var 6 (pv 6)) qa_nil))))))
  (qs_cons (qs_if (qt_w (qw_or (qt_cmp op_lt p_lt (q_var 2 (pv 2)) q_int (nomark _)) (qw_or (qt_not (qt_tru (q_call (ok__law_is_world T) (hr.mono (by decide)) gd rfl T.g__law_is_world T.F__law_is_world.kp T.b__law_is_world (fun _ _ _ => .nil) rfl tk (qa_cons (q_var 3 (pv 3)) qa_nil) (len_cons (fun _ _ _ _ h => len_nil h))))) (qw_or1 (qt_not (qt_tru (q_call (ok__law_is_world T) (hr.mono (by decide)) gd rfl T.g__law_is_world T.F__law_is_world.kp T.b__law_is_world (fun _ _ _ => .nil) rfl tk (qa_cons (q_var 7 (pv 7)) qa_nil) (len_cons (fun _ _ _ _ h => len_nil h))))))))) (qs_one (qs_ret q_bl)) qs_nil)
  (qs_cons (qs_set (ps_set (i := 8) nd rfl (Or.inl rfl) (q_call (ok__law_run T) (hr.mono (by decide)) gd rfl T.g__law_run T.F__law_run.kp T.b__law_run (fun _ _ _ => .nil) rfl tk (qa_cons q_str (qa_cons (q_var 3 (pv 3)) (qa_cons (q_var 7 (pv 7)) (qa_cons (q_var 5 (pv 5)) qa_nil)))) (len_cons (len_cons (len_cons (len_cons (fun _ _ _ _ h => len_nil h))))))))
  (qs_cons (qs_if (qt_w (qw_or (qt_cmp (o_ne hu) p_ne (q_ix (o_ix hu1) p_ix (q_var 8 (pv 8)) q_int (fun _ _ => rfl)) q_str (nomark _)) (qw_or1 (qt_not (qt_tru (q_call (ok__law_plain T) (hr.mono (by decide)) gd rfl T.g__law_plain T.F__law_plain.kp T.b__law_plain (fun _ _ _ => .nil) rfl tk (qa_cons (q_ix (o_ix hu1) p_ix (q_var 8 (pv 8)) q_int (fun _ _ => rfl)) qa_nil) (len_cons (fun _ _ _ _ h => len_nil h)))))))) (qs_one (qs_ret q_bl)) qs_nil)
  (qs_cons (qs_if (qt_not (qt_tru (q_call (ok__law_agree T) (hr.mono (by decide)) gd rfl T.g__law_agree T.F__law_agree.kp T.b__law_agree (fun _ _ _ => .nil) rfl tk (qa_cons (q_var 3 (pv 3)) (qa_cons (q_var 7 (pv 7)) (qa_cons (q_var 5 (pv 5)) qa_nil))) (len_cons (len_cons (len_cons (fun _ _ _ _ h => len_nil h))))))) (qs_one (qs_ret (q_and (q_cmp op_isN p_isN (q_ix (o_ix hu1) p_ix (q_var 8 (pv 8)) q_int (fun _ _ => rfl)) q_non (nomark _)) (q_one (q_call (ok__law_same T) (hr.mono (by decide)) gd rfl T.g__law_same T.F__law_same.kp T.b__law_same (fun _ _ _ => .nil) rfl tk (qa_cons (q_call (ok__law_run T) (hr.mono (by decide)) gd rfl T.g__law_run T.F__law_run.kp T.b__law_run (fun _ _ _ => .nil) rfl tk (qa_cons q_str (qa_cons (q_var 3 (pv 3)) (qa_cons (q_var 7 (pv 7)) (qa_cons (q_var 5 (pv 5)) qa_nil)))) (len_cons (len_cons (len_cons (len_cons (fun _ _ _ _ h => len_nil h)))))) (qa_cons (q_tup (qa_cons q_str (qa_cons (q_var 5 (pv 5)) qa_nil))) qa_nil)) (len_cons (len_cons (fun _ _ _ _ h => len_nil h)))))))) qs_nil)
  (qs_cons (qs_if (qt_w (qw_or (qt_not (qt_tru (q_callB call_isi p_isi rfl T.n_isinstance (by decide +kernel) (qa_cons (q_ix (o_ix hu1) p_ix (q_var 8 (pv 8)) q_int (fun _ _ => rfl)) (qa_cons (q_ty rfl T.n_tuple (by decide +kernel)) qa_nil))))) (qw_or (qt_cmp (o_ne hu) p_ne (q_callB (o_len rfl) p_len rfl T.n_len (by decide +kernel) (qa_cons (q_ix (o_ix hu1) p_ix (q_var 8 (pv 8)) q_int (fun _ _ => rfl)) qa_nil)) q_int (nomark _)) (qw_or1 (qt_not (qt_tru (q_callB (cr_all rfl) p_all rfl T.n_all (by decide +kernel) (qa_cons (q_lc (own := [("one", 13)]) (ws := [13]) rfl nd (qi_seq (q_ix (o_ix hu1) p_ix (q_var 8 (pv 8)) q_int (fun _ _ => rfl))) (blkOk_by (N := N__law_great_holds) (sc := defScope (top 44)) (by decide +kernel)) (fun _ _ _ _ _ => (qgw_name (pg_name (i := 13) nd rfl (Or.inl rfl)))) (fun _ _ _ _ _ => qts_nil) (fun _ _ _ _ _ => (q_call (ok__law_is_integer T) (hr.mono (by decide)) gd rfl T.g__law_is_integer T.F__law_is_integer.kp T.b__law_is_integer (fun _ _ _ => .nil) rfl takes0 (qa_cons (q_var 13 (pv 13)) qa_nil) (len_cons (fun _ _ _ _ h => len_nil h)))) (by decide)) qa_nil)))))))) (qs_one (qs_ret q_bl)) qs_nil)
  (qs_cons (qs_asg (q_ix (o_ix hu1) p_ix (q_var 8 (pv 8)) q_int (fun _ _ => rfl)) (qg_tup rfl (qgs_cons (qg_name (pg_name (i := 11) nd rfl (Or.inl rfl))) (qgs_cons (qg_name (pg_name (i := 12) nd rfl (Or.inl rfl))) qgs_nil))))
  (qs_cons (qs_if (qt_w (qw_or (qt_not (qt_chain op_le op_le p_le p_le (q_var 11 (pv 11)) (q_var 5 (pv 5)) (q_var 12 (pv 12)))) (qw_or (qt_tru (q_call (ok__law_agree T) (hr.mono (by decide)) gd rfl T.g__law_agree T.F__law_agree.kp T.b__law_agree (fun _ _ _ => .nil) rfl tk (qa_cons (q_var 3 (pv 3)) (qa_cons (q_var 7 (pv 7)) (qa_cons (q_op op_sub p_sub (q_var 11 (pv 11)) q_int) qa_nil))) (len_cons (len_cons (len_cons (fun _ _ _ _ h => len_nil h)))))) (qw_or1 (qt_tru (q_call (ok__law_agree T) (hr.mono (by decide)) gd rfl T.g__law_agree T.F__law_agree.kp T.b__law_agree (fun _ _ _ => .nil) rfl tk (qa_cons (q_var 3 (pv 3)) (qa_cons (q_var 7 (pv 7)) (qa_cons (q_op o_add p_add (q_var 12 (pv 12)) q_int) qa_nil))) (len_cons (len_cons (len_cons (fun _ _ _ _ h => len_nil h)))))))))) (qs_one (qs_ret q_bl)) qs_nil)
  (qs_cons (qs_for (passes_of rfl) rfl (qi_rng1 rfl T.n_range (qa_cons q_int qa_nil) rfl (len_cons (fun _ _ _ _ h => len_nil h))) (qg_name (pg_name (i := 9) nd rfl (Or.inl rfl))) (qs_one (qs_if (qt_not (qt_tru (q_call (ok__law_agree T) (hr.mono (by decide)) gd rfl T.g__law_agree T.F__law_agree.kp T.b__law_agree (fun _ _ _ => .nil) rfl tk (qa_cons (q_var 3 (pv 3)) (qa_cons (q_var 7 (pv 7)) (qa_cons (q_op o_add p_add (q_var 11 (pv 11)) (q_op o_div p_div (q_op o_mul p_mul (q_op op_sub p_sub (q_var 12 (pv 12)) (q_var 11 (pv 11))) (q_var 9 (pv 9))) q_int)) qa_nil))) (len_cons (len_cons (len_cons (fun _ _ _ _ h => len_nil h))))))) (qs_one (qs_ret q_bl)) qs_nil)))
  (qs_cons (qs_if (qt_cmp op_gt p_gt (q_op o_add p_add (q_op op_sub p_sub (q_var 12 (pv 12)) (q_var 11 (pv 11))) q_int) (q_op op_sub p_sub (q_op o_add p_add (q_ix (o_ix hu1) p_ix (q_var 3 (pv 3)) q_int (fun _ _ => rfl)) (q_ix (o_ix hu1) p_ix (q_var 7 (pv 7)) q_int (fun _ _ => rfl))) (q_call (ok__law_divisor T) (hr.mono (by decide)) gd rfl T.g__law_divisor T.F__law_divisor.kp T.b__law_divisor (fun _ _ _ => .nil) rfl tk (qa_cons (q_ix (o_ix hu1) p_ix (q_var 3 (pv 3)) q_int (fun _ _ => rfl)) (qa_cons (q_ix (o_ix hu1) p_ix (q_var 7 (pv 7)) q_int (fun _ _ => rfl)) qa_nil)) (len_cons (len_cons (fun _ _ _ _ h => len_nil h))))) (nomark _)) (qs_one (qs_ret q_bl)) qs_nil)
  (qs_one (qs_ret (q_call (ok__law_same T) (hr.mono (by decide)) gd rfl T.g__law_same T.F__law_same.kp T.b__law_same (fun _ _ _ => .nil) rfl tk (qa_cons (q_call (ok__law_run T) (hr.mono (by decide)) gd rfl T.g__law_run T.F__law_run.kp T.b__law_run (fun _ _ _ => .nil) rfl tk (qa_cons q_str (qa_cons (q_var 3 (pv 3)) (qa_cons (q_var 7 (pv 7)) (qa_cons (q_var 5 (pv 5)) qa_nil)))) (len_cons (len_cons (len_cons (len_cons (fun _ _ _ _ h => len_nil h)))))) (qa_cons (q_tup (qa_cons q_str (qa_cons (q_op o_add p_add (q_var 12 (pv 12)) q_int) qa_nil))) qa_nil)) (len_cons (len_cons (fun _ _ _ _ h => len_nil h)))))))))))))))))))))))
abbrev N__law_neighbours_hold : List Str := ["stream", "q", "less", "low", "due", "p"]
theorem sc__law_neighbours_hold : FnScope N__law_neighbours_hold ["stream"] (defScope (top 45)) := ⟨rfl, rfl, rfl, by decide +kernel, rfl, by decide +kernel, by decide +kernel⟩
noncomputable def b__law_neighbours_hold : Sv := (sSeq (sSet 1 (fBin dAdd (fK (.int 2)) (fCall F__law_next [] (fCons (fVar 0) (fCons (fCall F__law_pick [] (fCons (fVar 0) (fCons (fLst (fCons (fK (.int 9)) (fCons (fBin dPow (fK (.int 10)) (fK (.int 6))) (fCons (fBin dPow (fK (.int 10)) (fK (.int 27))) fNil)))) fNil))) fNil)))))
  (sSeq (sAsg (ptTup 2 (ptCons (ptName 5) (ptCons (ptName 1) ptNil))) (fCall F__law_lowest [] (fCons (fBin dAdd (fBin dMul (fCall F__law_next [] (fCons (fVar 0) (fCons (fBin dPow (fK (.int 10)) (fK (.int 15))) fNil))) (fBin dPow (fK (.int 10)) (fK (.int 6)))) (fCall F__law_next [] (fCons (fVar 0) (fCons (fBin dPow (fK (.int 10)) (fK (.int 6))) fNil)))) (fCons (fVar 1) fNil))))
  (sSeq (sIf (fB (fBin dEq (fVar 1) (fK (.int 1)))) (sRet (fK (.bl true))) sNil)
  (sSeq (sSet 2 (fCall F__law_inverse [] (fCons (fVar 5) (fCons (fVar 1) fNil))))
  (sSeq (sSet 3 (fTup (fCons (fBin dDiv (fCB cInt (fCons (fBin dSub (fBin dMul (fVar 5) (fVar 2)) (fK (.int 1))) fNil)) (fVar 1)) (fCons (fVar 2) (fCons (fK (.int 0)) fNil)))))
  (sSeq (sSet 4 (fTup (fCons (fBin dSub (fK (.int 1)) (fVar 2)) (fCons (fBin dSub (fVar 1) (fK (.int 1))) fNil))))
  (sSeq (sIf (fNotB (fTru (fCall F__law_same [] (fCons (fCall F__law_run [] (fCons (fK (.str "together")) (fCons (fVar 3) (fCons (fTup (fCons (fVar 5) (fCons (fVar 1) (fCons (fK (.int 0)) fNil)))) (fCons (fK (.int 0)) fNil))))) (fCons (fTup (fCons (fK (.str "answer")) (fCons (fVar 4) fNil))) fNil))))) (sRet (fK (.bl false))) sNil)
  (sRet (fAnd (fCall F__law_same [] (fCons (fCall F__law_run [] (fCons (fK (.str "together")) (fCons (fTup (fCons (fVar 5) (fCons (fVar 1) (fCons (fK (.int 0)) fNil)))) (fCons (fVar 3) (fCons (fK (.int 0)) fNil))))) (fCons (fTup (fCons (fK (.str "answer")) (fCons (fVar 4) fNil))) fNil))) (fCall F__law_same [] (fCons (fCall F__law_run [] (fCons (fK (.str "parting")) (fCons (fVar 3) (fCons (fTup (fCons (fVar 5) (fCons (fVar 1) (fCons (fK (.int 0)) fNil)))) (fCons (fK (.int 0)) fNil))))) (fCons (fTup (fCons (fK (.str "answer")) (fCons (fVar 1) fNil))) fNil))))))))))))
noncomputable def F__law_neighbours_hold : FnSem := fDef 6 b__law_neighbours_hold
theorem ok__law_neighbours_hold (T : Txt K mg) : FnG P w K mg base 9 T.a__law_neighbours_hold T.fd__law_neighbours_hold ["stream"] F__law_neighbours_hold := by
  refine fnG_mk (N := N__law_neighbours_hold) (b := b__law_neighbours_hold) T.F__law_neighbours_hold sc__law_neighbours_hold rfl (fun cdv A outer s H E hr gd tk => ?_)
  have hu := hr.units
  have hu65 : (A.deeper (envOfC "_law_neighbours_hold" (defScope (top 45)) s.heap.objs.size T.a__law_neighbours_hold cdv)).units + 65 < cLine := by have := hr.un; omega
  have hu1 := hu_of hr
  have nd := sc__law_neighbours_hold.nd
  unfold b__law_neighbours_hold
  exact (qs_cons (qs_set (ps_set (i := 1) nd rfl (Or.inl rfl) (q_op o_add p_add q_int (q_call (ok__law_next T) (hr.mono (by decide)) gd rfl T.g__law_next T.F__law_next.kp T.b__law_next (fun _ _ _ => .nil) rfl tk (qa_cons (q_var 0 (pv 0)) (qa_cons (q_call (ok__law_pick T) (hr.mono (by decide)) gd rfl T.g__law_pick T.F__law_pick.kp T.b__law_pick (fun _ _ _ => .nil) rfl tk (qa_cons (q_var 0 (pv 0)) (qa_cons (q_lst (qa_cons q_int (qa_cons (q_op op_pow p_pow q_int q_int) (qa_cons (q_op op_pow p_pow q_int q_int) qa_nil)))) qa_nil)) (len_cons (len_cons (fun _ _ _ _ h => len_nil h)))) qa_nil)) (len_cons (len_cons (fun _ _ _ _ h => len_nil h)))))))
  (qs_cons (qs_asg (q_call (ok__law_lowest T) (hr.mono (by decide)) gd rfl T.g__law_lowest T.F__law_lowest.kp T.b__law_lowest (fun _ _ _ => .nil) rfl tk (qa_cons (q_op o_add p_add (q_op o_mul p_mul (q_call (ok__law_next T) (hr.mono (by decide)) gd rfl T.g__law_next T.F__law_next.kp T.b__law_next (fun _ _ _ => .nil) rfl tk (qa_cons (q_var 0 (pv 0)) (qa_cons (q_op op_pow p_pow q_int q_int) qa_nil)) (len_cons (len_cons (fun _ _ _ _ h => len_nil h)))) (q_op op_pow p_pow q_int q_int)) (q_call (ok__law_next T) (hr.mono (by decide)) gd rfl T.g__law_next T.F__law_next.kp T.b__law_next (fun _ _ _ => .nil) rfl tk (qa_cons (q_var 0 (pv 0)) (qa_cons (q_op op_pow p_pow q_int q_int) qa_nil)) (len_cons (len_cons (fun _ _ _ _ h => len_nil h))))) (qa_cons (q_var 1 (pv 1)) qa_nil)) (len_cons (len_cons (fun _ _ _ _ h => len_nil h)))) (qg_tup rfl (qgs_cons (qg_name (pg_name (i := 5) nd rfl (Or.inl rfl))) (qgs_cons (qg_name (pg_name (i := 1) nd rfl (Or.inl rfl))) qgs_nil))))
  (qs_cons (qs_if (qt_cmp (o_eq hu) p_eq (q_var 1 (pv 1)) q_int (nomark _)) (qs_one (qs_ret q_bl)) qs_nil)
  (qs_cons (qs_set (ps_set (i := 2) nd rfl (Or.inl rfl) (q_call (ok__law_inverse T) (hr.mono (by decide)) gd rfl T.g__law_inverse T.F__law_inverse.kp T.b__law_inverse (fun _ _ _ => .nil) rfl tk (qa_cons (q_var 5 (pv 5)) (qa_cons (q_var 1 (pv 1)) qa_nil)) (len_cons (len_cons (fun _ _ _ _ h => len_nil h))))))
  (qs_cons (qs_set (ps_set (i := 3) nd rfl (Or.inl rfl) (q_tup (qa_cons (q_op o_div p_div (q_callTy call_int1 p_int rfl T.n_int (by decide +kernel) (qa_cons (q_op op_sub p_sub (q_op o_mul p_mul (q_var 5 (pv 5)) (q_var 2 (pv 2))) q_int) qa_nil)) (q_var 1 (pv 1))) (qa_cons (q_var 2 (pv 2)) (qa_cons q_int qa_nil))))))
  (qs_cons (qs_set (ps_set (i := 4) nd rfl (Or.inl rfl) (q_tup (qa_cons (q_op op_sub p_sub q_int (q_var 2 (pv 2))) (qa_cons (q_op op_sub p_sub (q_var 1 (pv 1)) q_int) qa_nil)))))
  (qs_cons (qs_if (qt_not (qt_tru (q_call (ok__law_same T) (hr.mono (by decide)) gd rfl T.g__law_same T.F__law_same.kp T.b__law_same (fun _ _ _ => .nil) rfl tk (qa_cons (q_call (ok__law_run T) (hr.mono (by decide)) gd rfl T.g__law_run T.F__law_run.kp T.b__law_run (fun _ _ _ => .nil) rfl tk (qa_cons q_str (qa_cons (q_var 3 (pv 3)) (qa_cons (q_tup (qa_cons (q_var 5 (pv 5)) (qa_cons (q_var 1 (pv 1)) (qa_cons q_int qa_nil)))) (qa_cons q_int qa_nil)))) (len_cons (len_cons (len_cons (len_cons (fun _ _ _ _ h => len_nil h)))))) (qa_cons (q_tup (qa_cons q_str (qa_cons (q_var 4 (pv 4)) qa_nil))) qa_nil)) (len_cons (len_cons (fun _ _ _ _ h => len_nil h)))))) (qs_one (qs_ret q_bl)) qs_nil)
  (qs_one (qs_ret (q_and (q_call (ok__law_same T) (hr.mono (by decide)) gd rfl T.g__law_same T.F__law_same.kp T.b__law_same (fun _ _ _ => .nil) rfl tk (qa_cons (q_call (ok__law_run T) (hr.mono (by decide)) gd rfl T.g__law_run T.F__law_run.kp T.b__law_run (fun _ _ _ => .nil) rfl tk (qa_cons q_str (qa_cons (q_tup (qa_cons (q_var 5 (pv 5)) (qa_cons (q_var 1 (pv 1)) (qa_cons q_int qa_nil)))) (qa_cons (q_var 3 (pv 3)) (qa_cons q_int qa_nil)))) (len_cons (len_cons (len_cons (len_cons (fun _ _ _ _ h => len_nil h)))))) (qa_cons (q_tup (qa_cons q_str (qa_cons (q_var 4 (pv 4)) qa_nil))) qa_nil)) (len_cons (len_cons (fun _ _ _ _ h => len_nil h)))) (q_one (q_call (ok__law_same T) (hr.mono (by decide)) gd rfl T.g__law_same T.F__law_same.kp T.b__law_same (fun _ _ _ => .nil) rfl tk (qa_cons (q_call (ok__law_run T) (hr.mono (by decide)) gd rfl T.g__law_run T.F__law_run.kp T.b__law_run (fun _ _ _ => .nil) rfl tk (qa_cons q_str (qa_cons (q_var 3 (pv 3)) (qa_cons (q_tup (qa_cons (q_var 5 (pv 5)) (qa_cons (q_var 1 (pv 1)) (qa_cons q_int qa_nil)))) (qa_cons q_int qa_nil)))) (len_cons (len_cons (len_cons (len_cons (fun _ _ _ _ h => len_nil h)))))) (qa_cons (q_tup (qa_cons q_str (qa_cons (q_var 1 (pv 1)) qa_nil))) qa_nil)) (len_cons (len_cons (fun _ _ _ _ h => len_nil h)))))))))))))))
abbrev N__law_world : List Str := ["stream", "size", "most", "q", "p", "low"]
theorem sc__law_world : FnScope N__law_world ["stream", "size", "most"] (defScope (top 36)) := ⟨rfl, rfl, rfl, by decide +kernel, rfl, by decide +kernel, by decide +kernel⟩
noncomputable def b__law_world : Sv := (sSeq (sSet 3 (fBin dAdd (fK (.int 1)) (fCall F__law_next [] (fCons (fVar 0) (fCons (fVar 1) fNil)))))
  (sSeq (sAsg (ptTup 2 (ptCons (ptName 4) (ptCons (ptName 5) ptNil))) (fCall F__law_lowest [] (fCons (fBin dSub (fCall F__law_next [] (fCons (fVar 0) (fCons (fBin dAdd (fBin dMul (fBin dMul (fK (.int 2)) (fVar 2)) (fVar 3)) (fK (.int 1))) fNil))) (fBin dMul (fVar 2) (fVar 3))) (fCons (fVar 3) fNil))))
  (sRet (fTup (fCons (fVar 4) (fCons (fVar 5) (fCons (fBin dSub (fCall F__law_next [] (fCons (fVar 0) (fCons (fBin dAdd (fBin dMul (fK (.int 8)) (fVar 5)) (fK (.int 1))) fNil))) (fBin dMul (fK (.int 4)) (fVar 5))) fNil)))))))
noncomputable def F__law_world : FnSem := fDef 6 b__law_world
theorem ok__law_world (T : Txt K mg) : FnG P w K mg base 3 T.a__law_world T.fd__law_world ["stream", "size", "most"] F__law_world := by
  refine fnG_mk (N := N__law_world) (b := b__law_world) T.F__law_world sc__law_world rfl (fun cdv A outer s H E hr gd tk => ?_)
  have hu := hr.units
  have hu65 : (A.deeper (envOfC "_law_world" (defScope (top 36)) s.heap.objs.size T.a__law_world cdv)).units + 65 < cLine := by have := hr.un; omega
  have hu1 := hu_of hr
  have nd := sc__law_world.nd
  unfold b__law_world
  exact (qs_cons (qs_set (ps_set (i := 3) nd rfl (Or.inl rfl) (q_op o_add p_add q_int (q_call (ok__law_next T) (hr.mono (by decide)) gd rfl T.g__law_next T.F__law_next.kp T.b__law_next (fun _ _ _ => .nil) rfl tk (qa_cons (q_var 0 (pv 0)) (qa_cons (q_var 1 (pv 1)) qa_nil)) (len_cons (len_cons (fun _ _ _ _ h => len_nil h)))))))
  (qs_cons (qs_asg (q_call (ok__law_lowest T) (hr.mono (by decide)) gd rfl T.g__law_lowest T.F__law_lowest.kp T.b__law_lowest (fun _ _ _ => .nil) rfl tk (qa_cons (q_op op_sub p_sub (q_call (ok__law_next T) (hr.mono (by decide)) gd rfl T.g__law_next T.F__law_next.kp T.b__law_next (fun _ _ _ => .nil) rfl tk (qa_cons (q_var 0 (pv 0)) (qa_cons (q_op o_add p_add (q_op o_mul p_mul (q_op o_mul p_mul q_int (q_var 2 (pv 2))) (q_var 3 (pv 3))) q_int) qa_nil)) (len_cons (len_cons (fun _ _ _ _ h => len_nil h)))) (q_op o_mul p_mul (q_var 2 (pv 2)) (q_var 3 (pv 3)))) (qa_cons (q_var 3 (pv 3)) qa_nil)) (len_cons (len_cons (fun _ _ _ _ h => len_nil h)))) (qg_tup rfl (qgs_cons (qg_name (pg_name (i := 4) nd rfl (Or.inl rfl))) (qgs_cons (qg_name (pg_name (i := 5) nd rfl (Or.inl rfl))) qgs_nil))))
  (qs_one (qs_ret (q_tup (qa_cons (q_var 4 (pv 4)) (qa_cons (q_var 5 (pv 5)) (qa_cons (q_op op_sub p_sub (q_call (ok__law_next T) (hr.mono (by decide)) gd rfl T.g__law_next T.F__law_next.kp T.b__law_next (fun _ _ _ => .nil) rfl tk (qa_cons (q_var 0 (pv 0)) (qa_cons (q_op o_add p_add (q_op o_mul p_mul q_int (q_var 5 (pv 5))) q_int) qa_nil)) (len_cons (len_cons (fun _ _ _ _ h => len_nil h)))) (q_op o_mul p_mul q_int (q_var 5 (pv 5)))) qa_nil))))))))
abbrev N__law_near : List Str := ["stream", "world", "kind", "size", "p", "q", "c", "top", "bottom"]
theorem sc__law_near : FnScope N__law_near ["stream", "world"] (defScope (top 41)) := ⟨rfl, rfl, rfl, by decide +kernel, rfl, by decide +kernel, by decide +kernel⟩
noncomputable def b__law_near : Sv := (sSeq (sAsg (ptTup 3 (ptCons (ptName 4) (ptCons (ptName 5) (ptCons (ptName 6) ptNil)))) (fVar 1))
  (sSeq (sSet 2 (fCall F__law_next [] (fCons (fVar 0) (fCons (fK (.int 5)) fNil))))
  (sSeq (sIf (fB (fBin dEq (fVar 2) (fK (.int 0)))) (sRet (fVar 1)) sNil)
  (sSeq (sIf (fB (fBin dEq (fVar 2) (fK (.int 1)))) (sRet (fTup (fCons (fVar 4) (fCons (fVar 5) (fCons (fBin dSub (fBin dAdd (fVar 6) (fCall F__law_next [] (fCons (fVar 0) (fCons (fBin dAdd (fBin dMul (fK (.int 2)) (fVar 5)) (fK (.int 1))) fNil)))) (fVar 5)) fNil))))) sNil)
  (sSeq (sSet 3 (fCall F__law_pick [] (fCons (fVar 0) (fCons (fLst (fCons (fVar 5) (fCons (fBin dAdd (fVar 5) (fK (.int 1))) (fCons (fBin dAdd (fBin dMul (fK (.int 2)) (fVar 5)) (fK (.int 1))) (fCons (fBin dAdd (fK (.int 1)) (fCall F__law_next [] (fCons (fVar 0) (fCons (fK (.int 12)) fNil)))) fNil))))) fNil))))
  (sSeq (sAsg (ptTup 2 (ptCons (ptName 7) (ptCons (ptName 8) ptNil))) (fCall F__law_lowest [] (fCons (fBin dAdd (fBin dDiv (fBin dMul (fVar 4) (fVar 3)) (fVar 5)) (fCall F__law_next [] (fCons (fVar 0) (fCons (fK (.int 2)) fNil)))) (fCons (fVar 3) fNil))))
  (sRet (fTup (fCons (fVar 7) (fCons (fVar 8) (fCons (fBin dSub (fBin dAdd (fBin dDiv (fBin dMul (fVar 6) (fVar 8)) (fVar 5)) (fCall F__law_next [] (fCons (fVar 0) (fCons (fK (.int 3)) fNil)))) (fK (.int 1))) fNil)))))))))))
noncomputable def F__law_near : FnSem := fDef 9 b__law_near
theorem ok__law_near (T : Txt K mg) : FnG P w K mg base 3 T.a__law_near T.fd__law_near ["stream", "world"] F__law_near := by
  refine fnG_mk (N := N__law_near) (b := b__law_near) T.F__law_near sc__law_near rfl (fun cdv A outer s H E hr gd tk => ?_)
  have hu := hr.units
  have hu65 : (A.deeper (envOfC "_law_near" (defScope (top 41)) s.heap.objs.size T.a__law_near cdv)).units + 65 < cLine := by have := hr.un; omega
  have hu1 := hu_of hr
  have nd := sc__law_near.nd
  unfold b__law_near
  exact (qs_cons (qs_asg (q_var 1 (pv 1)) (qg_tup rfl (qgs_cons (qg_name (pg_name (i := 4) nd rfl (Or.inl rfl))) (qgs_cons (qg_name (pg_name (i := 5) nd rfl (Or.inl rfl))) (qgs_cons (qg_name (pg_name (i := 6) nd rfl (Or.inl rfl))) qgs_nil)))))
  (qs_cons (qs_set (ps_set (i := 2) nd rfl (Or.inl rfl) (q_call (ok__law_next T) (hr.mono (by decide)) gd rfl T.g__law_next T.F__law_next.kp T.b__law_next (fun _ _ _ => .nil) rfl tk (qa_cons (q_var 0 (pv 0)) (qa_cons q_int qa_nil)) (len_cons (len_cons (fun _ _ _ _ h => len_nil h))))))
  (qs_cons (qs_if (qt_cmp (o_eq hu) p_eq (q_var 2 (pv 2)) q_int (nomark _)) (qs_one (qs_ret (q_var 1 (pv 1)))) qs_nil)
  (qs_cons (qs_if (qt_cmp (o_eq hu) p_eq (q_var 2 (pv 2)) q_int (nomark _)) (qs_one (qs_ret (q_tup (qa_cons (q_var 4 (pv 4)) (qa_cons (q_var 5 (pv 5)) (qa_cons (q_op op_sub p_sub (q_op o_add p_add (q_var 6 (pv 6)) (q_call (ok__law_next T) (hr.mono (by decide)) gd rfl T.g__law_next T.F__law_next.kp T.b__law_next (fun _ _ _ => .nil) rfl tk (qa_cons (q_var 0 (pv 0)) (qa_cons (q_op o_add p_add (q_op o_mul p_mul q_int (q_var 5 (pv 5))) q_int) qa_nil)) (len_cons (len_cons (fun _ _ _ _ h => len_nil h))))) (q_var 5 (pv 5))) qa_nil)))))) qs_nil)
  (qs_cons (qs_set (ps_set (i := 3) nd rfl (Or.inl rfl) (q_call (ok__law_pick T) (hr.mono (by decide)) gd rfl T.g__law_pick T.F__law_pick.kp T.b__law_pick (fun _ _ _ => .nil) rfl tk (qa_cons (q_var 0 (pv 0)) (qa_cons (q_lst (qa_cons (q_var 5 (pv 5)) (qa_cons (q_op o_add p_add (q_var 5 (pv 5)) q_int) (qa_cons (q_op o_add p_add (q_op o_mul p_mul q_int (q_var 5 (pv 5))) q_int) (qa_cons (q_op o_add p_add q_int (q_call (ok__law_next T) (hr.mono (by decide)) gd rfl T.g__law_next T.F__law_next.kp T.b__law_next (fun _ _ _ => .nil) rfl tk (qa_cons (q_var 0 (pv 0)) (qa_cons q_int qa_nil)) (len_cons (len_cons (fun _ _ _ _ h => len_nil h))))) qa_nil))))) qa_nil)) (len_cons (len_cons (fun _ _ _ _ h => len_nil h))))))
  (qs_cons (qs_asg (q_call (ok__law_lowest T) (hr.mono (by decide)) gd rfl T.g__law_lowest T.F__law_lowest.kp T.b__law_lowest (fun _ _ _ => .nil) rfl tk (qa_cons (q_op o_add p_add (q_op o_div p_div (q_op o_mul p_mul (q_var 4 (pv 4)) (q_var 3 (pv 3))) (q_var 5 (pv 5))) (q_call (ok__law_next T) (hr.mono (by decide)) gd rfl T.g__law_next T.F__law_next.kp T.b__law_next (fun _ _ _ => .nil) rfl tk (qa_cons (q_var 0 (pv 0)) (qa_cons q_int qa_nil)) (len_cons (len_cons (fun _ _ _ _ h => len_nil h))))) (qa_cons (q_var 3 (pv 3)) qa_nil)) (len_cons (len_cons (fun _ _ _ _ h => len_nil h)))) (qg_tup rfl (qgs_cons (qg_name (pg_name (i := 7) nd rfl (Or.inl rfl))) (qgs_cons (qg_name (pg_name (i := 8) nd rfl (Or.inl rfl))) qgs_nil))))
  (qs_one (qs_ret (q_tup (qa_cons (q_var 7 (pv 7)) (qa_cons (q_var 8 (pv 8)) (qa_cons (q_op op_sub p_sub (q_op o_add p_add (q_op o_div p_div (q_op o_mul p_mul (q_var 6 (pv 6)) (q_var 8 (pv 8))) (q_var 5 (pv 5))) (q_call (ok__law_next T) (hr.mono (by decide)) gd rfl T.g__law_next T.F__law_next.kp T.b__law_next (fun _ _ _ => .nil) rfl tk (qa_cons (q_var 0 (pv 0)) (qa_cons q_int qa_nil)) (len_cons (len_cons (fun _ _ _ _ h => len_nil h))))) q_int) qa_nil))))))))))))
abbrev N__law_small_holds : List Str := ["stream", "world", "other", "turn", "event", "same", "ahead", "back", "due", "far"]
theorem sc__law_small_holds : FnScope N__law_small_holds ["stream"] (defScope (top 42)) := ⟨rfl, rfl, rfl, by decide +kernel, rfl, by decide +kernel, by decide +kernel⟩
noncomputable def b__law_small_holds : Sv := (sSeq (sSet 1 (fCall F__law_world [] (fCons (fVar 0) (fCons (fCall F__law_pick [] (fCons (fVar 0) (fCons (fLst (fCons (fK (.int 1)) (fCons (fK (.int 4)) (fCons (fK (.int 12)) fNil)))) fNil))) (fCons (fK (.int 2)) fNil)))))
  (sSeq (sSet 2 (fCall F__law_near [] (fCons (fVar 0) (fCons (fVar 1) fNil))))
  (sSeq (sFor (fiRng (fCons (fK (.int 3)) fNil)) (ptName 3) (sSeq (sSet 4 (fBin dSub (fCall F__law_next [] (fCons (fVar 0) (fCons (fK (.int 61)) fNil))) (fK (.int 30))))
  (sSeq (sSet 5 (fBin dEq (fVar 1) (fVar 2)))
  (sSeq (sSet 6 (fLc (fiRng (fCons (fVar 4) (fCons (fBin dAdd (fVar 4) (fK (.int 80))) fNil))) (ptName 9) (fNotB (fTru (fCall F__law_agree [] (fCons (fVar 1) (fCons (fVar 2) (fCons (fVar 9) fNil)))))) (fVar 9) [9]))
  (sSeq (sIf (fOrB (fB (fBin dNe (fVar 5) (fBin dEq (fVar 6) (fLst fNil)))) (fNotB (fTru (fCall F__law_same [] (fCons (fCall F__law_run [] (fCons (fK (.str "parting")) (fCons (fVar 1) (fCons (fVar 2) (fCons (fVar 4) fNil))))) (fCons (fTup (fCons (fK (.str "answer")) (fCons (fIf (fTru (fVar 5)) (fK .non) (fBin dIx (fVar 6) (fK (.int 0)))) fNil))) fNil)))))) (sRet (fK (.bl false))) sNil)
  (sSeq (sSet 7 (fLc (fiDown (fCons (fVar 4) (fCons (fBin dSub (fVar 4) (fK (.int 80))) (fCons (fBin dSub (fK (.int 0)) (fK (.int 1))) fNil)))) (ptName 9) (fNotB (fTru (fCall F__law_agree [] (fCons (fVar 1) (fCons (fVar 2) (fCons (fVar 9) fNil)))))) (fVar 9) [9]))
  (sSeq (sSet 8 (fIf (fTru (fVar 5)) (fTup (fCons (fK .non) (fCons (fK .non) fNil))) (fIf (fB (fBin dEq (fBin dIx (fVar 6) (fK (.int 0))) (fVar 4))) (fK .non) (fTup (fCons (fBin dAdd (fBin dIx (fVar 7) (fK (.int 0))) (fK (.int 1))) (fCons (fBin dSub (fBin dIx (fVar 6) (fK (.int 0))) (fK (.int 1))) fNil))))))
  (sIf (fNotB (fTru (fCall F__law_same [] (fCons (fCall F__law_run [] (fCons (fK (.str "together")) (fCons (fVar 1) (fCons (fVar 2) (fCons (fVar 4) fNil))))) (fCons (fTup (fCons (fK (.str "answer")) (fCons (fVar 8) fNil))) fNil))))) (sRet (fK (.bl false))) sNil))))))))
  (sRet (fK (.bl true))))))
noncomputable def F__law_small_holds : FnSem := fDef 10 b__law_small_holds
theorem ok__law_small_holds (T : Txt K mg) : FnG P w K mg base 9 T.a__law_small_holds T.fd__law_small_holds ["stream"] F__law_small_holds := by
  refine fnG_mk (N := N__law_small_holds) (b := b__law_small_holds) T.F__law_small_holds sc__law_small_holds rfl (fun cdv A outer s H E hr gd tk => ?_)
  have hu := hr.units
  have hu65 : (A.deeper (envOfC "_law_small_holds" (defScope (top 42)) s.heap.objs.size T.a__law_small_holds cdv)).units + 65 < cLine := by have := hr.un; omega
  have hu1 := hu_of hr
  have nd := sc__law_small_holds.nd
  unfold b__law_small_holds
  exact (qs_cons (qs_set (ps_set (i := 1) nd rfl (Or.inr rfl) (q_call (ok__law_world T) (hr.mono (by decide)) gd rfl T.g__law_world T.F__law_world.kp T.b__law_world (fun _ _ _ => .nil) rfl tk (qa_cons (q_var 0 (pv 0)) (qa_cons (q_call (ok__law_pick T) (hr.mono (by decide)) gd rfl T.g__law_pick T.F__law_pick.kp T.b__law_pick (fun _ _ _ => .nil) rfl tk (qa_cons (q_var 0 (pv 0)) (qa_cons (q_lst (qa_cons q_int (qa_cons q_int (qa_cons q_int qa_nil)))) qa_nil)) (len_cons (len_cons (fun _ _ _ _ h => len_nil h)))) (qa_cons q_int qa_nil))) (len_cons (len_cons (len_cons (fun _ _ _ _ h => len_nil h)))))))
  (qs_cons (qs_set (ps_set (i := 2) nd rfl (Or.inr rfl) (q_call (ok__law_near T) (hr.mono (by decide)) gd rfl T.g__law_near T.F__law_near.kp T.b__law_near (fun _ _ _ => .nil) rfl tk (qa_cons (q_var 0 (pv 0)) (qa_cons (q_var 1 (pv 1)) qa_nil)) (len_cons (len_cons (fun _ _ _ _ h => len_nil h))))))
  (qs_cons (qs_for (passes_of rfl) rfl (qi_rng1 rfl T.n_range (qa_cons q_int qa_nil) rfl (len_cons (fun _ _ _ _ h => len_nil h))) (qg_name (pg_name (i := 3) nd rfl (Or.inl rfl))) (qs_cons (qs_set (ps_set (i := 4) nd rfl (Or.inl rfl) (q_op op_sub p_sub (q_call (ok__law_next T) (hr.mono (by decide)) gd rfl T.g__law_next T.F__law_next.kp T.b__law_next (fun _ _ _ => .nil) rfl tk (qa_cons (q_var 0 (pv 0)) (qa_cons q_int qa_nil)) (len_cons (len_cons (fun _ _ _ _ h => len_nil h)))) q_int)))
  (qs_cons (qs_set (ps_set (i := 5) nd rfl (Or.inl rfl) (q_cmp (o_eq hu) p_eq (q_var 1 (pv 1)) (q_var 2 (pv 2)) (nomark _))))
  (qs_cons (qs_setLc (own := [("far", 9)]) (ws := [9]) (i := 6) rfl nd rfl rfl (sw_true rfl rfl rfl (by decide +kernel)) (qi_rng2 rfl T.n_range (qa_cons (q_var 4 (pv 4)) (qa_cons (q_op o_add p_add (q_var 4 (pv 4)) q_int) qa_nil)) rfl rfl (len_cons (len_cons (fun _ _ _ _ h => len_nil h)))) (blkOk_by (N := N__law_small_holds) (sc := defScope (top 42)) (by decide +kernel)) (fun _ _ _ _ _ => (qgw_name (pg_name (i := 9) nd rfl (Or.inl rfl)))) (fun _ _ _ _ _ => (qts_one (qt_not (qt_tru (q_call (ok__law_agree T) (hr.mono (by decide)) gd rfl T.g__law_agree T.F__law_agree.kp T.b__law_agree (fun _ _ _ => .nil) rfl takes0 (qa_cons (q_var 1 (pv 1)) (qa_cons (q_var 2 (pv 2)) (qa_cons (q_var 9 (pv 9)) qa_nil))) (len_cons (len_cons (len_cons (fun _ _ _ _ h => len_nil h))))))))) (fun _ _ _ _ _ => (q_var 9 (pv 9))) (by decide))
  (qs_cons (qs_if (qt_w (qw_or (qt_cmp (o_ne hu) p_ne (q_var 5 (pv 5)) (q_cmp (o_eq hu) p_eq (q_var 6 (pv 6)) (q_lst qa_nil) (nomark _)) (nomark _)) (qw_or1 (qt_not (qt_tru (q_call (ok__law_same T) (hr.mono (by decide)) gd rfl T.g__law_same T.F__law_same.kp T.b__law_same (fun _ _ _ => .nil) rfl tk (qa_cons (q_call (ok__law_run T) (hr.mono (by decide)) gd rfl T.g__law_run T.F__law_run.kp T.b__law_run (fun _ _ _ => .nil) rfl tk (qa_cons q_str (qa_cons (q_var 1 (pv 1)) (qa_cons (q_var 2 (pv 2)) (qa_cons (q_var 4 (pv 4)) qa_nil)))) (len_cons (len_cons (len_cons (len_cons (fun _ _ _ _ h => len_nil h)))))) (qa_cons (q_tup (qa_cons q_str (qa_cons (q_if (qt_tru (q_var 5 (pv 5))) q_non (q_ix (o_ix hu1) p_ix (q_var 6 (pv 6)) q_int (fun _ _ => rfl))) qa_nil))) qa_nil)) (len_cons (len_cons (fun _ _ _ _ h => len_nil h))))))))) (qs_one (qs_ret q_bl)) qs_nil)
  (qs_cons (qs_setLc (own := [("far", 9)]) (ws := [9]) (i := 7) rfl nd rfl rfl (sw_true rfl rfl rfl (by decide +kernel)) (qi_down rfl T.n_range (qa_cons (q_var 4 (pv 4)) (qa_cons (q_op op_sub p_sub (q_var 4 (pv 4)) q_int) (qa_cons (q_op op_sub p_sub q_int q_int) qa_nil)))) (blkOk_by (N := N__law_small_holds) (sc := defScope (top 42)) (by decide +kernel)) (fun _ _ _ _ _ => (qgw_name (pg_name (i := 9) nd rfl (Or.inl rfl)))) (fun _ _ _ _ _ => (qts_one (qt_not (qt_tru (q_call (ok__law_agree T) (hr.mono (by decide)) gd rfl T.g__law_agree T.F__law_agree.kp T.b__law_agree (fun _ _ _ => .nil) rfl takes0 (qa_cons (q_var 1 (pv 1)) (qa_cons (q_var 2 (pv 2)) (qa_cons (q_var 9 (pv 9)) qa_nil))) (len_cons (len_cons (len_cons (fun _ _ _ _ h => len_nil h))))))))) (fun _ _ _ _ _ => (q_var 9 (pv 9))) (by decide))
  (qs_cons (qs_set (ps_set (i := 8) nd rfl (Or.inl rfl) (q_if (qt_tru (q_var 5 (pv 5))) (q_tup (qa_cons q_non (qa_cons q_non qa_nil))) (q_if (qt_cmp (o_eq hu) p_eq (q_ix (o_ix hu1) p_ix (q_var 6 (pv 6)) q_int (fun _ _ => rfl)) (q_var 4 (pv 4)) (nomark _)) q_non (q_tup (qa_cons (q_op o_add p_add (q_ix (o_ix hu1) p_ix (q_var 7 (pv 7)) q_int (fun _ _ => rfl)) q_int) (qa_cons (q_op op_sub p_sub (q_ix (o_ix hu1) p_ix (q_var 6 (pv 6)) q_int (fun _ _ => rfl)) q_int) qa_nil)))))))
  (qs_one (qs_if (qt_not (qt_tru (q_call (ok__law_same T) (hr.mono (by decide)) gd rfl T.g__law_same T.F__law_same.kp T.b__law_same (fun _ _ _ => .nil) rfl tk (qa_cons (q_call (ok__law_run T) (hr.mono (by decide)) gd rfl T.g__law_run T.F__law_run.kp T.b__law_run (fun _ _ _ => .nil) rfl tk (qa_cons q_str (qa_cons (q_var 1 (pv 1)) (qa_cons (q_var 2 (pv 2)) (qa_cons (q_var 4 (pv 4)) qa_nil)))) (len_cons (len_cons (len_cons (len_cons (fun _ _ _ _ h => len_nil h)))))) (qa_cons (q_tup (qa_cons q_str (qa_cons (q_var 8 (pv 8)) qa_nil))) qa_nil)) (len_cons (len_cons (fun _ _ _ _ h => len_nil h)))))) (qs_one (qs_ret q_bl)) qs_nil)))))))))
  (qs_one (qs_ret q_bl)))))
abbrev N_law : List Str := ["script", "stream", "turn"]
theorem sc_law : FnScope N_law ["script"] (defScope (top 46)) := ⟨rfl, rfl, rfl, by decide +kernel, rfl, by decide +kernel, by decide +kernel⟩
noncomputable def b_law : Sv := (sSeq (sSet 1 (fCall F__law_stream [] (fCons (fVar 0) fNil)))
  (sSeq (sFor (fiRng (fCons (fK (.int 4)) fNil)) (ptName 2) (sIf (fNotB (fTru (fCall F__law_small_holds [] (fCons (fVar 1) fNil)))) (sRet (fK (.bl false))) sNil))
  (sRet (fAnd (fCall F__law_great_holds [] (fCons (fVar 1) fNil)) (fAnd (fCall F__law_great_holds [] (fCons (fVar 1) fNil)) (fCall F__law_neighbours_hold [] (fCons (fVar 1) fNil)))))))
noncomputable def F_law : FnSem := fDef 3 b_law
theorem ok_law (T : Txt K mg) : FnG P w K mg base 10 T.a_law T.fd_law ["script"] F_law := by
  refine fnG_mk (N := N_law) (b := b_law) T.F_law sc_law rfl (fun cdv A outer s H E hr gd tk => ?_)
  have hu := hr.units
  have hu65 : (A.deeper (envOfC "law" (defScope (top 46)) s.heap.objs.size T.a_law cdv)).units + 65 < cLine := by have := hr.un; omega
  have hu1 := hu_of hr
  have nd := sc_law.nd
  unfold b_law
  exact (qs_cons (qs_set (ps_set (i := 1) nd rfl (Or.inl rfl) (q_call (ok__law_stream T) (hr.mono (by decide)) gd rfl T.g__law_stream T.F__law_stream.kp T.b__law_stream (fun _ _ _ => .nil) rfl tk (qa_cons (q_var 0 (pv 0)) qa_nil) (len_cons (fun _ _ _ _ h => len_nil h)))))
  (qs_cons (qs_for (passes_of rfl) rfl (qi_rng1 rfl T.n_range (qa_cons q_int qa_nil) rfl (len_cons (fun _ _ _ _ h => len_nil h))) (qg_name (pg_name (i := 2) nd rfl (Or.inl rfl))) (qs_one (qs_if (qt_not (qt_tru (q_call (ok__law_small_holds T) (hr.mono (by decide)) gd rfl T.g__law_small_holds T.F__law_small_holds.kp T.b__law_small_holds (fun _ _ _ => .nil) rfl tk (qa_cons (q_var 1 (pv 1)) qa_nil) (len_cons (fun _ _ _ _ h => len_nil h))))) (qs_one (qs_ret q_bl)) qs_nil)))
  (qs_one (qs_ret (q_and (q_call (ok__law_great_holds T) (hr.mono (by decide)) gd rfl T.g__law_great_holds T.F__law_great_holds.kp T.b__law_great_holds (fun _ _ _ => .nil) rfl tk (qa_cons (q_var 1 (pv 1)) qa_nil) (len_cons (fun _ _ _ _ h => len_nil h))) (q_and (q_call (ok__law_great_holds T) (hr.mono (by decide)) gd rfl T.g__law_great_holds T.F__law_great_holds.kp T.b__law_great_holds (fun _ _ _ => .nil) rfl tk (qa_cons (q_var 1 (pv 1)) qa_nil) (len_cons (fun _ _ _ _ h => len_nil h))) (q_one (q_call (ok__law_neighbours_hold T) (hr.mono (by decide)) gd rfl T.g__law_neighbours_hold T.F__law_neighbours_hold.kp T.b__law_neighbours_hold (fun _ _ _ => .nil) rfl tk (qa_cons (q_var 1 (pv 1)) qa_nil) (len_cons (fun _ _ _ _ h => len_nil h))))))))))
end
end P58

set_option autoImplicit false
/-! k59: the plain law of gaps. -/
namespace M59
theorem emod_of {x q r : Int} (k : Int) (h0 : 0 ≤ r) (h1 : r < q) (e : x = r + q * k) : x % q = r := by
  rw [e, Int.add_mul_emod_self_left]
  exact Int.emod_eq_of_lt h0 h1
theorem gcd_step (a b : Int) : Int.gcd a b = Int.gcd b (a % b) := by
  rw [Int.gcd_comm a b]
  have h : a = a % b + b * (a / b) := (Int.emod_add_mul_ediv a b).symm
  have h2 : Int.gcd b (a % b + b * (a / b)) = Int.gcd b (a % b) := Int.gcd_add_mul_left_right ..
  rw [← h] at h2
  exact h2
theorem dvd_of_co {p q j : Int} (hco : Int.gcd p q = 1) (h : q ∣ p * j) : q ∣ j := by
  have h1 : Int.gcd (p * j) q = q.natAbs := Int.gcd_eq_natAbs_right_iff_dvd.mpr h
  rw [Int.gcd_mul_right_left_of_gcd_eq_one hco] at h1
  exact Int.gcd_eq_natAbs_right_iff_dvd.mp h1
def rr (p q j : Int) : Int := (p * j) % q
section
variable {p q i j : Int} (hq : 0 < q)
include hq
theorem rr0 : 0 ≤ rr p q j := Int.emod_nonneg _ (by omega)
theorem rr1 : rr p q j < q := Int.emod_lt_of_pos _ hq
theorem rr_split (j : Int) : ∃ k, p * j = rr p q j + q * k := ⟨p * j / q, (Int.emod_add_mul_ediv (p * j) q).symm⟩
theorem rr_add : rr p q (i + j) = rr p q i + rr p q j ∨ rr p q (i + j) = rr p q i + rr p q j - q := by
  obtain ⟨a, ha⟩ := rr_split (p := p) hq i
  obtain ⟨b, hb⟩ := rr_split (p := p) hq j
  have := rr0 (p := p) (j := i) hq
  have := rr0 (p := p) (j := j) hq
  have := rr1 (p := p) (j := i) hq
  have := rr1 (p := p) (j := j) hq
  by_cases h : rr p q i + rr p q j < q
  · exact .inl (emod_of (a + b) (by omega) h (by rw [Int.mul_add, Int.mul_add]; omega))
  · exact .inr (emod_of (a + b + 1) (by omega) (by omega) (by rw [Int.mul_add, Int.mul_add, Int.mul_add]; omega))
theorem rr_sub : rr p q (i - j) = rr p q i - rr p q j ∨ rr p q (i - j) = rr p q i - rr p q j + q := by
  have h := rr_add (p := p) (i := i - j) (j := j) hq
  rw [show i - j + j = i by omega] at h
  omega
theorem rr_ne (hco : Int.gcd p q = 1) (h0 : 0 < j) (h1 : j < q) : rr p q j ≠ 0 := fun h => by
  have h2 := dvd_of_co hco (Int.dvd_of_emod_eq_zero h)
  have := Int.le_of_dvd h0 h2
  omega
theorem rr_inj (hco : Int.gcd p q = 1) (hi : 0 ≤ i) (hj : 0 ≤ j) (h1 : i < q) (h2 : j < q) (h : rr p q i = rr p q j) : i = j := by
  rcases Int.lt_trichotomy i j with g | g | g
  · have a := rr_sub (p := p) (i := j) (j := i) hq
    have b := rr_ne hq hco (j := j - i) (by omega) (by omega)
    have := rr1 (p := p) (j := j - i) hq
    omega
  · exact g
  · have a := rr_sub (p := p) (i := i) (j := j) hq
    have b := rr_ne hq hco (j := i - j) (by omega) (by omega)
    have := rr1 (p := p) (j := i - j) hq
    omega
end
/-- the least and the greatest rest among the steps 1 .. n-1, and where they stand -/
structure TG (p q n least great early late : Int) : Prop where
  q0 : 0 < q
  co : Int.gcd p q = 1
  n2 : 2 ≤ n
  nq : n < q
  e1 : 1 ≤ early
  e2 : early < n
  l1 : 1 ≤ late
  l2 : late < n
  er : rr p q early = least
  lr : rr p q late = great
  lo : ∀ j, 1 ≤ j → j < n → least ≤ rr p q j
  hi : ∀ j, 1 ≤ j → j < n → rr p q j ≤ great
section
variable {p q n least great early late : Int}
theorem TG.least0 (t : TG p q n least great early late) : 0 < least := by
  have := rr_ne t.q0 t.co (j := early) (by have := t.e1; omega) (by have := t.e2; have := t.nq; omega)
  have := rr0 (p := p) (j := early) t.q0
  have := t.er
  omega
theorem TG.greatq (t : TG p q n least great early late) : great < q := by
  have := rr1 (p := p) (j := late) t.q0
  have := t.lr
  omega
theorem TG.cover (t : TG p q n least great early late) : n ≤ early + late := by
  have h1 := t.least0
  have h2 := t.greatq
  have h3 := t.er
  have h4 := t.lr
  by_cases h : n ≤ early + late
  · exact h
  · have a := rr_add (p := p) (i := early) (j := late) t.q0
    have b := t.lo (early + late) (by have := t.e1; have := t.l1; omega) (by omega)
    have c := t.hi (early + late) (by have := t.e1; have := t.l1; omega) (by omega)
    omega
/-- the step from the rest of e to the next -/
def stp (q n least great early late e : Int) : Int := if e < n - early then least else if late ≤ e then q - great else least + q - great
/-- r + d meets no rest of step f before d: told by the differences -/
theorem TG.gap (t : TG p q n least great early late) {e f d : Int} (he : 0 ≤ e) (he2 : e < n) (hf : 0 ≤ f) (hf2 : f < n) (h0 : 0 < d) (h1 : d < stp q n least great early late e) : rr p q (f - e) ≠ d := by
  intro h
  have b1 := t.least0
  have b2 := t.greatq
  have b3 := t.er
  have b4 := t.lr
  have b5 := t.cover
  have b6 := t.e1
  have b7 := t.e2
  have b8 := t.l1
  have b9 := t.l2
  have b10 := t.nq
  have hlg : least ≤ great := by have := t.lo late b8 b9; omega
  have hdq : d < q := by unfold stp at h1; split at h1 <;> (try split at h1) <;> omega
  rcases Int.lt_trichotomy e f with g | g | g
  · -- f ahead
    have lo := t.lo (f - e) (by omega) (by omega)
    have sub := rr_sub (p := p) (i := early) (j := f - e) t.q0
    have inj := fun h => rr_inj t.q0 t.co (i := f - e) (j := early) (by omega) (by omega) (by omega) (by omega) h
    have lo2 := fun h => t.lo (early - (f - e)) h (by omega)
    have hi2 := fun h => t.hi (early - (f - e)) h (by omega)
    have r1 := rr1 (p := p) (j := early - (f - e)) t.q0
    unfold stp at h1
    split at h1
    · omega
    · have lt : f - e < early := by omega
      have nz : rr p q (f - e) ≠ rr p q early := fun h => by have := inj h; omega
      have := lo2 (by omega)
      have := hi2 (by omega)
      split at h1 <;> omega
  · subst g
    rw [show e - e = 0 by omega] at h
    unfold rr at h
    rw [Int.mul_zero, Int.zero_emod] at h
    omega
  · -- f behind
    have neg := rr_sub (p := p) (i := 0) (j := e - f) t.q0
    rw [show 0 - (e - f) = f - e by omega] at neg
    have z : rr p q 0 = 0 := by unfold rr; rw [Int.mul_zero, Int.zero_emod]
    have hi := t.hi (e - f) (by omega) (by omega)
    have nz0 := rr_ne t.q0 t.co (j := e - f) (by omega) (by omega)
    have p0 := rr0 (p := p) (j := e - f) t.q0
    have sub := rr_sub (p := p) (i := late) (j := e - f) t.q0
    have inj := fun h => rr_inj t.q0 t.co (i := e - f) (j := late) (by omega) (by omega) (by omega) (by omega) h
    have lo2 := fun h => t.lo (late - (e - f)) h (by omega)
    have hi2 := fun h => t.hi (late - (e - f)) h (by omega)
    have r0 := rr0 (p := p) (j := late - (e - f)) t.q0
    have q1 : rr p q (e - f) = q - d := by omega
    unfold stp at h1
    by_cases hl : e - f < late
    · have nz : rr p q (e - f) ≠ rr p q late := fun h => by have := inj h; omega
      have := lo2 (by omega)
      have := hi2 (by omega)
      split at h1
      · omega
      · split at h1 <;> omega
    · split at h1
      · omega
      · split at h1
        · omega
        · omega
/-- where the step leads -/
theorem TG.lead (t : TG p q n least great early late) {e : Int} (he : 0 ≤ e) (he2 : e < n) : ∃ f, 0 ≤ f ∧ f < n ∧ 0 < stp q n least great early late e ∧ stp q n least great early late e ≤ q ∧ (rr p q (f - e) = stp q n least great early late e ∨ rr p q (f - e) = stp q n least great early late e - q) := by
  have b1 := t.least0
  have b2 := t.greatq
  have b3 := t.er
  have b4 := t.lr
  have b5 := t.cover
  have b6 := t.e1
  have b7 := t.e2
  have b8 := t.l1
  have b9 := t.l2
  have b10 := t.nq
  have hlg : least ≤ great := by have := t.lo late b8 b9; omega
  have z : rr p q 0 = 0 := by unfold rr; rw [Int.mul_zero, Int.zero_emod]
  unfold stp
  split
  · refine ⟨e + early, by omega, by omega, by omega, by omega, .inl ?_⟩
    rw [show e + early - e = early by omega]
    exact b3
  · split
    · have neg := rr_sub (p := p) (i := 0) (j := late) t.q0
      have r1 := rr0 (p := p) (j := 0 - late) t.q0
      refine ⟨e - late, by omega, by omega, by omega, by omega, ?_⟩
      rw [show e - late - e = 0 - late by omega]
      omega
    · have neg := rr_sub (p := p) (i := early) (j := late) t.q0
      have r1 := rr0 (p := p) (j := early - late) t.q0
      refine ⟨e + early - late, by omega, by omega, by omega, by omega, ?_⟩
      rw [show e + early - late - e = early - late by omega]
      omega
end
end M59

set_option autoImplicit false
namespace M59
/-- the rest of event e -/
def ro (p q c e : Int) : Int := (p * e + c) % q
section
variable {p q c e f d : Int} (hq : 0 < q)
include hq
theorem ro0 : 0 ≤ ro p q c e := Int.emod_nonneg _ (by omega)
theorem ro1 : ro p q c e < q := Int.emod_lt_of_pos _ hq
theorem ro_split (e : Int) : ∃ k, p * e + c = ro p q c e + q * k := ⟨(p * e + c) / q, (Int.emod_add_mul_ediv (p * e + c) q).symm⟩
/-- the rest of f is the rest of e and the difference's -/
theorem ro_diff : ∃ k, ro p q c f = ro p q c e + rr p q (f - e) + q * k := by
  obtain ⟨a, ha⟩ := ro_split (p := p) (c := c) hq e
  obtain ⟨b, hb⟩ := ro_split (p := p) (c := c) hq f
  obtain ⟨k, hk⟩ := rr_split (p := p) hq (f - e)
  rw [Int.mul_sub] at hk
  refine ⟨a + k - b, ?_⟩
  rw [Int.mul_sub, Int.mul_add]
  omega
theorem ro_hit (h0 : 0 < d) (h1 : d < q) (h : (ro p q c e + d) % q = ro p q c f) : rr p q (f - e) = d := by
  obtain ⟨k, hk⟩ := ro_diff (p := p) (c := c) (e := e) (f := f) hq
  have h2 := (Int.emod_add_mul_ediv (ro p q c e + d) q).symm
  rw [h] at h2
  generalize (ro p q c e + d) / q = m at h2
  have a := rr0 (p := p) (j := f - e) hq
  have b := rr1 (p := p) (j := f - e) hq
  have e2 : d % q = d := Int.emod_eq_of_lt (by omega) h1
  have e3 : d % q = rr p q (f - e) := emod_of (k + m) a b (by rw [Int.mul_add]; omega)
  omega
theorem ro_lead (h : rr p q (f - e) = d ∨ rr p q (f - e) = d - q) : (ro p q c e + d) % q = ro p q c f := by
  obtain ⟨k, hk⟩ := ro_diff (p := p) (c := c) (e := e) (f := f) hq
  rcases h with h | h
  · exact emod_of (-k) (ro0 hq) (ro1 hq) (by rw [Int.mul_neg]; omega)
  · exact emod_of (-k + 1) (ro0 hq) (ro1 hq) (by rw [Int.mul_add, Int.mul_neg]; omega)
end
/-- d is the gap behind x among the rests R on the circle of q -/
structure IsGap (R : Int → Prop) (q x d : Int) : Prop where
  pos : 0 < d
  le : d ≤ q
  hit : R ((x + d) % q)
  free : ∀ d', 0 < d' → d' < d → ¬ R ((x + d') % q)
theorem IsGap.uniq {R : Int → Prop} {q x d d' : Int} (h : IsGap R q x d) (h' : IsGap R q x d') : d = d' := by
  rcases Int.lt_trichotomy d d' with g | g | g
  · exact absurd h.hit (h'.free d h.pos g)
  · exact g
  · exact absurd h'.hit (h.free d' h'.pos g)
def dif (a : Int) : List Int → List Int
  | [] => []
  | b :: t => (b - a) :: dif b t
def src (a : Int) : List Int → List Int
  | [] => []
  | b :: t => a :: src b t
def lst (a : Int) : List Int → Int
  | [] => a
  | b :: t => lst b t
theorem src_lst : ∀ (a : Int) (t : List Int), src a t ++ [lst a t] = a :: t
  | a, [] => rfl
  | a, b :: t => by rw [src, lst, List.cons_append, src_lst]
/-- the gaps of rests in rising order: the round gap first -/
def lens (q : Int) : List Int → List Int
  | [] => []
  | a :: t => (a - lst a t + q) :: dif a t
theorem lst_mem : ∀ (a : Int) (t : List Int), lst a t ∈ a :: t
  | a, [] => List.mem_cons_self
  | a, b :: t => List.mem_cons_of_mem _ (lst_mem b t)
theorem lst_top : ∀ {a : Int} {t : List Int}, (a :: t).Pairwise (· < ·) → ∀ x ∈ a :: t, x ≤ lst a t
  | a, [], _, x, h => by rw [List.mem_singleton.mp h]; exact Int.le_refl _
  | a, b :: t, hp, x, h => by
    obtain ⟨h1, h2⟩ := List.pairwise_cons.mp hp
    have ih := lst_top h2
    rcases List.mem_cons.mp h with rfl | h
    · have := h1 b List.mem_cons_self
      have := ih b List.mem_cons_self
      show x ≤ lst b t
      omega
    · exact ih x h
/-- between neighbours no rest lies -/
theorem dif_gap {R : Int → Prop} {q : Int} : ∀ {pre : List Int} {a : Int} {t : List Int}, (pre ++ a :: t).Pairwise (· < ·) → (∀ x, R x ↔ x ∈ pre ++ a :: t) → (∀ x, R x → 0 ≤ x ∧ x < q) → ∀ g : Int → Int, (∀ x, R x → IsGap R q x (g x)) → dif a t = (src a t).map g
  | pre, a, [], _, _, _, _, _ => rfl
  | pre, a, b :: t, hp, hR, hb, g, hg => by
    rw [dif, src, List.map_cons]
    have hp' := hp
    rw [List.pairwise_append] at hp'
    obtain ⟨h1, h2, h3⟩ := hp'
    obtain ⟨h4, h5⟩ := List.pairwise_cons.mp h2
    obtain ⟨h6, h7⟩ := List.pairwise_cons.mp h5
    have ra : R a := (hR a).mpr (by simp)
    have rb : R b := (hR b).mpr (by simp)
    have hab := h4 b List.mem_cons_self
    have ba := hb a ra
    have bb := hb b rb
    congr 1
    · refine IsGap.uniq (R := R) (q := q) (x := a) ⟨by omega, by omega, ?_, fun d' p0 p1 hr => ?_⟩ (hg a ra)
      · rw [show a + (b - a) = b by omega, Int.emod_eq_of_lt bb.1 bb.2]
        exact rb
      · rw [Int.emod_eq_of_lt (by omega) (by omega)] at hr
        have hm := (hR _).mp hr
        rcases List.mem_append.mp hm with hm | hm
        · have := h3 _ hm a List.mem_cons_self
          omega
        · rcases List.mem_cons.mp hm with hm | hm
          · omega
          · rcases List.mem_cons.mp hm with hm | hm
            · omega
            · have := h6 _ hm
              omega
    · exact dif_gap (pre := pre ++ [a]) (by simpa using hp) (fun x => by rw [hR x]; simp) hb g hg
theorem lens_gap {R : Int → Prop} {q : Int} {L : List Int} (hp : L.Pairwise (· < ·)) (hR : ∀ x, R x ↔ x ∈ L) (hb : ∀ x, R x → 0 ≤ x ∧ x < q) (g : Int → Int) (hg : ∀ x, R x → IsGap R q x (g x)) : (lens q L).Perm (L.map g) := by
  cases L with
  | nil => exact .nil
  | cons a t =>
    have hd := dif_gap (R := R) (q := q) (pre := []) (a := a) (t := t) hp hR hb g hg
    have ra : R a := (hR a).mpr List.mem_cons_self
    have rl : R (lst a t) := (hR _).mpr (lst_mem a t)
    have tops := lst_top hp
    have ba := hb a ra
    have bl := hb _ rl
    have hal := tops a List.mem_cons_self
    have e : a - lst a t + q = g (lst a t) := by
      refine IsGap.uniq (R := R) (q := q) (x := lst a t) ⟨by omega, by omega, ?_, fun d' p0 p1 hr => ?_⟩ (hg _ rl)
      · rw [show lst a t + (a - lst a t + q) = a + q by omega, Int.add_emod_right, Int.emod_eq_of_lt ba.1 ba.2]
        exact ra
      · by_cases h : lst a t + d' < q
        · rw [Int.emod_eq_of_lt (by omega) h] at hr
          have := tops _ ((hR _).mp hr)
          omega
        · have e : (lst a t + d') % q = lst a t + d' - q := emod_of 1 (by omega) (by omega) (by omega)
          rw [e] at hr
          have hm := (hR _).mp hr
          rcases List.mem_cons.mp hm with hm | hm
          · omega
          · have := (List.pairwise_cons.mp hp).1 _ hm
            omega
    rw [lens, hd, e]
    have h1 : (g (lst a t) :: (src a t).map g) = (lst a t :: src a t).map g := rfl
    rw [h1]
    refine List.Perm.map g ?_
    rw [← src_lst a t]
    exact (List.perm_append_singleton _ _).symm
theorem sum_dif : ∀ (a : Int) (t : List Int), (dif a t).sum = lst a t - a
  | a, [] => by simp [dif, lst]
  | a, b :: t => by rw [dif, List.sum_cons, sum_dif b t, lst]; omega
theorem sum_lens {q : Int} {L : List Int} (h : L ≠ []) : (lens q L).sum = q := by
  cases L with
  | nil => exact absurd rfl h
  | cons a t => rw [lens, List.sum_cons, sum_dif]; omega
theorem len_dif : ∀ (a : Int) (t : List Int), (dif a t).length = t.length
  | _, [] => rfl
  | _, b :: t => by rw [dif, List.length_cons, len_dif b t]; rfl
theorem len_lens {q : Int} : ∀ L : List Int, (lens q L).length = L.length
  | [] => rfl
  | a :: t => by rw [lens, List.length_cons, len_dif]; rfl
/-- L : the rests of the events first .. first + n - 1 in rising order -/
structure Rests (p q c first : Int) (n : Nat) (L : List Int) : Prop where
  up : L.Pairwise (· < ·)
  mem : ∀ x, x ∈ L ↔ ∃ i : Nat, i < n ∧ x = ro p q c (first + i)
theorem Rests.bd {p q c first : Int} {n : Nat} {L : List Int} (h : Rests p q c first n L) (hq : 0 < q) : ∀ x, x ∈ L → 0 ≤ x ∧ x < q := fun x hx => by
  obtain ⟨i, _, rfl⟩ := (h.mem x).mp hx
  exact ⟨ro0 hq, ro1 hq⟩
theorem ro_inj {p q c e f : Int} (hq : 0 < q) (hco : Int.gcd p q = 1) (h : ro p q c e = ro p q c f) (h1 : f - e < q) (h2 : e - f < q) : e = f := by
  obtain ⟨k, hk⟩ := ro_diff (p := p) (c := c) (e := e) (f := f) hq
  obtain ⟨m, hm⟩ := ro_diff (p := p) (c := c) (e := f) (f := e) hq
  have a := rr0 (p := p) (j := f - e) hq
  have b := rr1 (p := p) (j := f - e) hq
  have a' := rr0 (p := p) (j := e - f) hq
  have b' := rr1 (p := p) (j := e - f) hq
  have z1 : (0 : Int) % q = rr p q (f - e) := emod_of (-(rr p q (f - e) + q * k) + k + 0) a b (by
    have : rr p q (f - e) + q * k = 0 := by omega
    rw [this]; rw [Int.mul_add, Int.mul_add]; omega)
  have z2 : (0 : Int) % q = rr p q (e - f) := emod_of (-(rr p q (e - f) + q * m) + m + 0) a' b' (by
    have : rr p q (e - f) + q * m = 0 := by omega
    rw [this]; rw [Int.mul_add, Int.mul_add]; omega)
  rw [Int.zero_emod] at z1 z2
  rcases Int.lt_trichotomy e f with g | g | g
  · exact absurd z1.symm (rr_ne hq hco (by omega) (by omega))
  · exact g
  · exact absurd z2.symm (rr_ne hq hco (by omega) (by omega))
/-- the rests, each event's once -/
theorem Rests.perm {p q c first : Int} {n : Nat} {L : List Int} (h : Rests p q c first n L) (hq : 0 < q) (hco : Int.gcd p q = 1) (hn : (n : Int) ≤ q) : L.Perm ((List.range n).map fun i : Nat => ro p q c (first + i)) := by
  refine (List.perm_ext_iff_of_nodup (h.up.imp fun h => Int.ne_of_lt h) ?_).mpr fun x => ?_
  · unfold List.Nodup
    rw [List.pairwise_map]
    refine List.Pairwise.imp_of_mem (R := fun a b => a ≠ b) (fun {a b} ha hb hab h => ?_) List.nodup_range
    rw [List.mem_range] at ha hb
    have := ro_inj hq hco h (by omega) (by omega)
    omega
  · rw [h.mem]
    simp only [List.mem_map, List.mem_range]
    exact ⟨fun ⟨i, a, b⟩ => ⟨i, a, b.symm⟩, fun ⟨i, a, b⟩ => ⟨i, a, b.symm⟩⟩
/-- three runs -/
theorem runs_of {a b n : Nat} {x y z : Int} (hab : a ≤ b) (hbn : b ≤ n) (F : Nat → Int) (h1 : ∀ i, i < a → F i = x) (h2 : ∀ i, a ≤ i → i < b → F i = z) (h3 : ∀ i, b ≤ i → i < n → F i = y) :
    (List.range n).map F = List.replicate a x ++ (List.replicate (b - a) z ++ List.replicate (n - b) y) := by
  refine List.ext_getElem (by simp; omega) fun i hi1 hi2 => ?_
  simp only [List.length_map, List.length_range] at hi1
  rw [List.getElem_map, List.getElem_range, List.getElem_append]
  split
  · rename_i h
    rw [List.length_replicate] at h
    rw [List.getElem_replicate, h1 i h]
  · rename_i h
    rw [List.length_replicate] at h
    rw [List.getElem_append]
    split
    · rename_i h'
      rw [List.length_replicate, List.length_replicate] at h'
      rw [List.getElem_replicate, h2 i (by omega) (by omega)]
    · rename_i h'
      rw [List.length_replicate, List.length_replicate] at h'
      rw [List.getElem_replicate, h3 i (by omega) hi1]
/-- how often each gap stands -/
def bag3 (n : Int) (least great early late q : Int) : List Int := List.replicate (n - early).toNat least ++ (List.replicate (early + late - n).toNat (least + q - great) ++ List.replicate (n - late).toNat (q - great))
theorem TG.bag {p q least great early late c first : Int} {n : Nat} {L : List Int} (t : TG p q n least great early late) (h : Rests p q c first n L) : (lens q L).Perm (bag3 n least great early late q) := by
  have hn := t.nq
  have hpm := h.perm t.q0 t.co (by omega)
  have ex : ∀ x, x ∈ L → ∃ d, IsGap (· ∈ L) q x d := fun x hx => by
    obtain ⟨i, hi, rfl⟩ := (h.mem x).mp hx
    obtain ⟨f, f0, f1, s0, s1, hl⟩ := t.lead (e := i) (by omega) (by omega)
    refine ⟨stp q n least great early late i, s0, s1, ?_, fun d' p0 p1 hr => ?_⟩
    · refine (h.mem _).mpr ⟨f.toNat, by omega, ?_⟩
      refine ro_lead t.q0 ?_
      rw [show first + ((f.toNat : Nat) : Int) - (first + (i : Int)) = f - i by omega]
      exact hl
    · obtain ⟨j, hj, e⟩ := (h.mem _).mp hr
      have e2 := ro_hit t.q0 p0 (by omega) e
      rw [show first + (j : Int) - (first + (i : Int)) = (j : Int) - i by omega] at e2
      exact t.gap (e := i) (f := j) (by omega) (by omega) (by omega) (by omega) p0 p1 e2
  let g : Int → Int := fun x => open Classical in if hx : ∃ d, IsGap (· ∈ L) q x d then hx.choose else 0
  have hg : ∀ x, x ∈ L → IsGap (· ∈ L) q x (g x) := fun x hx => by
    have e : g x = (ex x hx).choose := dif_pos (ex x hx)
    rw [e]
    exact (ex x hx).choose_spec
  refine (lens_gap (R := (· ∈ L)) h.up (fun x => Iff.rfl) (h.bd t.q0) g hg).trans ((hpm.map g).trans ?_)
  rw [List.map_map]
  have cov := t.cover
  have e1 := t.e1
  have e2 := t.e2
  have l1 := t.l1
  have l2 := t.l2
  have st : ∀ i : Nat, i < n → (g ∘ fun i : Nat => ro p q c (first + i)) i = stp q n least great early late i := fun i hi => by
    have hx : ro p q c (first + i) ∈ L := (h.mem _).mpr ⟨i, hi, rfl⟩
    refine IsGap.uniq (hg _ hx) ?_
    obtain ⟨f, f0, f1, s0, s1, hl⟩ := t.lead (e := i) (by omega) (by omega)
    refine ⟨s0, s1, ?_, fun d' p0 p1 hr => ?_⟩
    · refine (h.mem _).mpr ⟨f.toNat, by omega, ?_⟩
      refine ro_lead t.q0 ?_
      rw [show first + ((f.toNat : Nat) : Int) - (first + (i : Int)) = f - i by omega]
      exact hl
    · obtain ⟨j, hj, e⟩ := (h.mem _).mp hr
      have e2 := ro_hit t.q0 p0 (by omega) e
      rw [show first + (j : Int) - (first + (i : Int)) = (j : Int) - i by omega] at e2
      exact t.gap (e := i) (f := j) (by omega) (by omega) (by omega) (by omega) p0 p1 e2
  rw [runs_of (a := (n - early).toNat) (b := late.toNat) (n := n) (x := least) (y := q - great) (z := least + q - great) (by omega) (by omega)]
  · unfold bag3
    rw [show late.toNat - (n - early).toNat = (early + late - n).toNat by omega, show n - late.toNat = (n - late).toNat by omega]
  · intro i hi; rw [st i (by omega)]; unfold stp; rw [if_pos (by omega)]
  · intro i hi hi2; rw [st i (by omega)]; unfold stp; rw [if_neg (by omega), if_neg (by omega)]
  · intro i hi hi2; rw [st i hi2]; unfold stp; rw [if_neg (by omega), if_pos (by omega)]
end M59

set_option autoImplicit false
namespace M59
/-- all rests are met -/
theorem full_mem {p q c first u k : Int} {n : Nat} {L : List Int} (hq : 0 < q) (hu : p * u = 1 + q * k) (hn : q ≤ n) (h : Rests p q c first n L) (x : Int) : x ∈ L ↔ 0 ≤ x ∧ x < q := by
  refine ⟨fun hx => h.bd hq x hx, fun hx => (h.mem x).mpr ?_⟩
  have a := Int.emod_nonneg (u * (x - c) - first) (show q ≠ 0 by omega)
  have b := Int.emod_lt_of_pos (u * (x - c) - first) hq
  have e := (Int.emod_add_mul_ediv (u * (x - c) - first) q).symm
  generalize (u * (x - c) - first) % q = r at a b e
  generalize (u * (x - c) - first) / q = m at e
  refine ⟨r.toNat, by omega, ?_⟩
  unfold ro
  symm
  rw [show first + ((r.toNat : Nat) : Int) = u * (x - c) - q * m by omega]
  have e2 : p * (u * (x - c) - q * m) + c = x + q * (k * (x - c) - p * m) := by
    rw [Int.mul_sub, ← Int.mul_assoc, hu, Int.add_mul, Int.one_mul, Int.mul_sub q, Int.mul_assoc q k, Int.mul_left_comm p q m]
    omega
  exact emod_of _ hx.1 hx.2 e2
theorem full_bag {p q c first u k : Int} {n : Nat} {L : List Int} (hq : 0 < q) (hu : p * u = 1 + q * k) (hn : q ≤ n) (h : Rests p q c first n L) : (lens q L).Perm (List.replicate q.toNat 1) := by
  have hm := full_mem hq hu hn h
  have hg : ∀ x, x ∈ L → IsGap (· ∈ L) q x ((fun _ => 1) x) := fun x hx => by
    show IsGap (· ∈ L) q x 1
    refine ⟨by omega, by omega, (hm _).mpr ⟨Int.emod_nonneg _ (by omega), Int.emod_lt_of_pos _ hq⟩, fun d' p0 p1 => by omega⟩
  refine (lens_gap (R := (· ∈ L)) h.up (fun x => Iff.rfl) (h.bd hq) _ hg).trans ?_
  have hL : L.Perm ((List.range q.toNat).map fun i : Nat => (i : Int)) := by
    refine (List.perm_ext_iff_of_nodup (h.up.imp fun h => Int.ne_of_lt h) ?_).mpr fun x => ?_
    · unfold List.Nodup
      rw [List.pairwise_map]
      exact List.nodup_range.imp fun {a b} h e => h (by omega)
    · rw [hm]
      simp only [List.mem_map, List.mem_range]
      exact ⟨fun h => ⟨x.toNat, by omega, by omega⟩, fun ⟨i, a, b⟩ => by omega⟩
  have e : L.length = q.toNat := by rw [hL.length_eq]; simp
  rw [List.map_const', e]
theorem one_bag {p q c first : Int} {L : List Int} (hq : 0 < q) (h : Rests p q c first 1 L) : lens q L = [q] := by
  have hm : ∀ x, x ∈ L ↔ x = ro p q c first := fun x => by
    rw [h.mem]
    refine ⟨fun ⟨i, a, b⟩ => ?_, fun e => ⟨0, by omega, ?_⟩⟩
    · rw [b, show first + (i : Int) = first by omega]
    · rw [e]; simp
  have up := h.up
  match L, hm, up with
  | [], hm, _ => exact absurd ((hm _).mpr rfl) (by simp)
  | [a], _, _ => simp [lens, lst, dif]
  | a :: b :: t, hm, up =>
    have h1 := (List.pairwise_cons.mp up).1 b List.mem_cons_self
    have h2 := (hm a).mp (by simp)
    have h3 := (hm b).mp (by simp)
    omega

/-! ### tables -/
def iget : List (Int × Int) → Int → Option Int
  | [], _ => none
  | (a, b) :: r, k => if a = k then some b else iget r k
def iput : List (Int × Int) → Int → Int → List (Int × Int)
  | [], k, v => [(k, v)]
  | (a, b) :: r, k, v => if a = k then (a, v) :: r else (a, b) :: iput r k v
/-- the table T tells N -/
structure Rep (T : List (Int × Int)) (N : Int → Int) : Prop where
  nd : (T.map (·.1)).Nodup
  get : ∀ k, iget T k = if N k = 0 then none else some (N k)
  pos : ∀ k, 0 ≤ N k
theorem iput_get : ∀ (T : List (Int × Int)) (k v j : Int), iget (iput T k v) j = if j = k then some v else iget T j
  | [], k, v, j => by
    simp only [iput, iget]
    by_cases h : k = j
    · rw [if_pos h, if_pos h.symm]
    · rw [if_neg h, if_neg fun e => h e.symm]
  | (a, b) :: r, k, v, j => by
    unfold iput
    split
    · rename_i h
      subst h
      simp only [iget]
      by_cases g : a = j
      · rw [if_pos g, if_pos g.symm]
      · rw [if_neg g, if_neg fun e => g e.symm, if_neg g]
    · rename_i h
      simp only [iget, iput_get r k v j]
      by_cases g : a = j
      · rw [if_pos g, if_pos g]
        rw [if_neg (by omega)]
      · rw [if_neg g, if_neg g]
theorem iput_keys : ∀ (T : List (Int × Int)) (k v x : Int), x ∈ (iput T k v).map (·.1) ↔ x = k ∨ x ∈ T.map (·.1)
  | [], k, v, x => by simp [iput]
  | (a, b) :: r, k, v, x => by
    unfold iput
    split
    · rename_i h
      subst h
      simp
    · simp only [List.map_cons, List.mem_cons, iput_keys r k v x]
      exact ⟨fun h => by rcases h with h | h | h <;> simp [h], fun h => by rcases h with h | h | h <;> simp [h]⟩
theorem iput_nd : ∀ (T : List (Int × Int)) (k v : Int), (T.map (·.1)).Nodup → ((iput T k v).map (·.1)).Nodup
  | [], k, v, _ => by simp [iput]
  | (a, b) :: r, k, v, h => by
    unfold iput
    rw [List.map_cons, List.nodup_cons] at h
    split
    · rw [List.map_cons, List.nodup_cons]
      exact h
    · rename_i g
      rw [List.map_cons, List.nodup_cons, iput_keys]
      exact ⟨fun e => e.elim (fun e => g e) h.1, iput_nd r k v h.2⟩
theorem Rep.nil : Rep [] fun _ => 0 := ⟨by simp, fun k => rfl, fun k => Int.le_refl _⟩
theorem Rep.add {T : List (Int × Int)} {N : Int → Int} (h : Rep T N) (k m : Int) (hm : 0 < m) : Rep (iput T k ((iget T k).getD 0 + m)) fun j => N j + if j = k then m else 0 := by
  refine ⟨iput_nd _ _ _ h.nd, fun j => ?_, fun j => ?_⟩
  · rw [iput_get]
    by_cases e : j = k
    · subst e
      have := h.pos j
      rw [if_pos rfl, if_pos rfl, if_neg (by omega), h.get j]
      by_cases z : N j = 0
      · rw [if_pos z, z]; rfl
      · rw [if_neg z]; rfl
    · rw [if_neg e, if_neg e, h.get j, Int.add_zero]
  · have := h.pos j
    show 0 ≤ N j + _
    split <;> omega
theorem Rep.congr {T : List (Int × Int)} {N M : Int → Int} (h : Rep T N) (e : ∀ k, N k = M k) : Rep T M := (funext e : N = M) ▸ h
theorem iget_mem : ∀ {T : List (Int × Int)} {k v : Int}, (T.map (·.1)).Nodup → (iget T k = some v ↔ (k, v) ∈ T)
  | [], k, v, _ => by simp [iget]
  | (a, b) :: r, k, v, h => by
    rw [List.map_cons, List.nodup_cons] at h
    unfold iget
    split
    · rename_i e
      subst e
      constructor
      · intro g; cases g; exact List.mem_cons_self
      · intro g
        rcases List.mem_cons.mp g with g | g
        · cases g; rfl
        · exact absurd (List.mem_map.mpr ⟨_, g, rfl⟩) h.1
    · rename_i e
      rw [iget_mem h.2, List.mem_cons]
      exact ⟨fun g => .inr g, fun g => g.elim (fun g => by cases g; exact absurd rfl e) id⟩
/-- the rows of N in rising order -/
structure Can (N : Int → Int) (L : List (Int × Int)) : Prop where
  up : L.Pairwise fun a b => a.1 < b.1
  mem : ∀ k v, (k, v) ∈ L ↔ N k = v ∧ v ≠ 0
theorem up_uniq : ∀ {L M : List (Int × Int)}, L.Pairwise (fun a b => a.1 < b.1) → M.Pairwise (fun a b => a.1 < b.1) → (∀ x, x ∈ L ↔ x ∈ M) → L = M
  | [], [], _, _, _ => rfl
  | [], b :: M, _, _, h => absurd ((h b).mpr List.mem_cons_self) (by simp)
  | a :: L, [], _, _, h => absurd ((h a).mp List.mem_cons_self) (by simp)
  | a :: L, b :: M, h1, h2, h => by
    obtain ⟨a1, a2⟩ := List.pairwise_cons.mp h1
    obtain ⟨b1, b2⟩ := List.pairwise_cons.mp h2
    have e : a = b := by
      rcases List.mem_cons.mp ((h a).mp List.mem_cons_self) with e | e
      · exact e
      · rcases List.mem_cons.mp ((h b).mpr List.mem_cons_self) with g | g
        · exact g.symm
        · have := b1 _ e
          have := a1 _ g
          omega
    subst e
    rw [up_uniq a2 b2 fun x => ?_]
    constructor
    · intro hx
      rcases List.mem_cons.mp ((h x).mp (List.mem_cons_of_mem _ hx)) with e | e
      · have := a1 _ hx
        rw [e] at this
        omega
      · exact e
    · intro hx
      rcases List.mem_cons.mp ((h x).mpr (List.mem_cons_of_mem _ hx)) with e | e
      · have := b1 _ hx
        rw [e] at this
        omega
      · exact e
theorem Can.uniq {N : Int → Int} {L M : List (Int × Int)} (h : Can N L) (h' : Can N M) : L = M :=
  up_uniq h.up h'.up fun ⟨k, v⟩ => by rw [h.mem, h'.mem]
def leB (a b : Int) : Bool := decide (a ≤ b)
def lexB (a b : Int × Int) : Bool := decide (a.1 < b.1) || (decide (a.1 = b.1) && decide (a.2 ≤ b.2))
theorem sort_up {xs : List Int} (h : xs.Nodup) : (xs.mergeSort leB).Pairwise (· < ·) := by
  have h1 := List.pairwise_mergeSort (le := leB) (fun a b c h1 h2 => by unfold leB at *; simp at *; omega) (fun a b => by unfold leB; simp; omega) xs
  have h2 : (xs.mergeSort leB).Nodup := (List.mergeSort_perm xs leB).symm.nodup h
  have h3 := h1.and h2
  exact h3.imp fun {a b} ⟨p, q⟩ => by unfold leB at p; simp at p; omega
theorem sort_upL {xs : List (Int × Int)} (h : (xs.map (·.1)).Nodup) : (xs.mergeSort lexB).Pairwise fun a b => a.1 < b.1 := by
  have h1 := List.pairwise_mergeSort (le := lexB) (fun a b c h1 h2 => by unfold lexB at *; simp at *; omega) (fun a b => by unfold lexB; simp; omega) xs
  have h2 : ((xs.mergeSort lexB).map (·.1)).Nodup := ((List.mergeSort_perm xs lexB).map _).symm.nodup h
  unfold List.Nodup at h2
  rw [List.pairwise_map] at h2
  exact (h1.and h2).imp fun {a b} ⟨p, q⟩ => by unfold lexB at p; simp at p; omega
theorem Rep.can {T : List (Int × Int)} {N : Int → Int} (h : Rep T N) : Can N (T.mergeSort lexB) := by
  refine ⟨sort_upL h.nd, fun k v => ?_⟩
  rw [(List.mergeSort_perm T lexB).mem_iff, ← iget_mem h.nd, h.get]
  constructor
  · intro e
    split at e
    · cases e
    · rename_i z
      cases e
      exact ⟨rfl, z⟩
  · rintro ⟨rfl, z⟩
    rw [if_neg z]
theorem Rep.canK {T : List (Int × Int)} {N : Int → Int} (h : Rep T N) : Can N (((T.map (·.1)).mergeSort leB).map fun k => (k, (iget T k).getD 0)) := by
  refine ⟨?_, fun k v => ?_⟩
  · rw [List.pairwise_map]
    exact sort_up h.nd
  · simp only [List.mem_map, Prod.mk.injEq, (List.mergeSort_perm _ leB).mem_iff]
    constructor
    · rintro ⟨a, ⟨⟨x, y⟩, hx, rfl⟩, rfl, rfl⟩
      have e := (iget_mem h.nd).mpr hx
      show N x = (iget T x).getD 0 ∧ _
      rw [e]
      rw [h.get] at e
      split at e
      · cases e
      · rename_i z
        cases e
        exact ⟨rfl, z⟩
    · rintro ⟨rfl, z⟩
      have e : iget T k = some (N k) := by rw [h.get, if_neg z]
      refine ⟨k, ⟨(k, N k), (iget_mem h.nd).mp e, rfl⟩, rfl, ?_⟩
      rw [e]; rfl
/-- how often -/
def cnt (M : List Int) (k : Int) : Int := (M.count k : Nat)
theorem cnt_perm {M M' : List Int} (h : M.Perm M') (k : Int) : cnt M k = cnt M' k := by unfold cnt; rw [h.count_eq]
def tally (M : List Int) (T : List (Int × Int)) : List (Int × Int) := M.foldl (fun T k => iput T k ((iget T k).getD 0 + 1)) T
theorem tally_rep : ∀ (M : List Int) {T : List (Int × Int)} {N : Int → Int}, Rep T N → Rep (tally M T) fun k => N k + cnt M k
  | [], T, N, h => h.congr fun k => by simp [cnt]
  | a :: M, T, N, h => by
    have ih := tally_rep M (h.add a 1 (by omega))
    refine Rep.congr (T := tally (a :: M) T) ih fun k => ?_
    unfold cnt
    rw [List.count_cons]
    by_cases e : k = a
    · subst e; simp; omega
    · have e' : ¬ a = k := fun h => e h.symm
      simp [e, e']
def add3 (l m : Int) (T : List (Int × Int)) : List (Int × Int) := if 0 < m then iput T l ((iget T l).getD 0 + m) else T
theorem add3_rep {T : List (Int × Int)} {N : Int → Int} (h : Rep T N) (l m : Int) (hm : 0 ≤ m) : Rep (add3 l m T) fun k => N k + cnt (List.replicate m.toNat l) k := by
  unfold add3
  split
  · rename_i g
    refine (h.add l m g).congr fun k => ?_
    unfold cnt
    rw [List.count_replicate]
    by_cases e : k = l
    · subst e; simp; omega
    · have e' : ¬ l = k := fun h => e h.symm
      simp [e, e']
  · refine h.congr fun k => ?_
    rw [show m.toNat = 0 by omega]
    simp [cnt]
theorem perm_sum {l l' : List Int} (h : l.Perm l') : l.sum = l'.sum := by
  induction h with
  | nil => rfl
  | cons x _ ih => rw [List.sum_cons, List.sum_cons, ih]
  | swap x y l => simp only [List.sum_cons]; omega
  | trans _ _ a b => exact a.trans b
/-- what the rows sum to -/
theorem can_bag {M : List Int} {L : List (Int × Int)} (h : Can (cnt M) L) : M.Perm (L.flatMap fun r => List.replicate r.2.toNat r.1) := by
  refine List.perm_iff_count.mpr fun x => ?_
  have key : ∀ {L : List (Int × Int)}, L.Pairwise (fun a b => a.1 < b.1) → ∀ x, (L.flatMap fun r => List.replicate r.2.toNat r.1).count x = ((iget L x).getD 0).toNat := by
    intro L
    induction L with
    | nil => intro _ x; rfl
    | cons r L ih =>
      intro hp x
      obtain ⟨h1, h2⟩ := List.pairwise_cons.mp hp
      rw [List.flatMap_cons, List.count_append, ih h2, List.count_replicate]
      obtain ⟨a, b⟩ := r
      rw [show iget ((a, b) :: L) x = if a = x then some b else iget L x from rfl]
      by_cases e : a = x
      · subst e
        have z : iget L a = none := by
          cases g : iget L a with
          | none => rfl
          | some v =>
            have nd : (L.map (·.1)).Nodup := by
              unfold List.Nodup
              rw [List.pairwise_map]
              exact h2.imp fun h => Int.ne_of_lt h
            have := h1 _ ((iget_mem nd).mp g)
            exact absurd this (Int.lt_irrefl _)
        rw [z, if_pos rfl]
        simp
      · rw [if_neg e]
        simp [e]
  rw [key h.up]
  have nd : (L.map (·.1)).Nodup := by
    unfold List.Nodup
    rw [List.pairwise_map]
    exact h.up.imp fun h => Int.ne_of_lt h
  by_cases z : cnt M x = 0
  · have e : iget L x = none := by
      cases g : iget L x with
      | none => rfl
      | some v =>
        have := (h.mem x v).mp ((iget_mem nd).mp g)
        omega
    rw [e]
    unfold cnt at z
    show M.count x = 0
    omega
  · have e : iget L x = some (cnt M x) := (iget_mem nd).mpr ((h.mem x _).mpr ⟨rfl, z⟩)
    rw [e]
    unfold cnt
    show M.count x = ((M.count x : Nat) : Int).toNat
    omega
theorem can_len {M : List Int} {L : List (Int × Int)} (h : Can (cnt M) L) : (L.map (·.2)).sum = M.length ∧ (L.map fun r => r.1 * r.2).sum = M.sum := by
  have hp := can_bag h
  have pos : ∀ r ∈ L, 0 ≤ r.2 := fun ⟨k, v⟩ hr => by
    have := (h.mem k v).mp hr
    unfold cnt at this
    show 0 ≤ v
    omega
  rw [hp.length_eq, perm_sum hp]
  clear hp h
  have rs : ∀ (n : Nat) (a : Int), (List.replicate n a).sum = a * n := by
    intro n a
    induction n with
    | zero => simp
    | succ n ih => rw [List.replicate_succ, List.sum_cons, ih, Int.natCast_succ, Int.mul_add, Int.mul_one]; omega
  induction L with
  | nil => exact ⟨rfl, rfl⟩
  | cons r L ih =>
    obtain ⟨i1, i2⟩ := ih fun r hr => pos r (List.mem_cons_of_mem _ hr)
    have p0 := pos r List.mem_cons_self
    rw [List.map_cons, List.sum_cons, List.map_cons, List.sum_cons, List.flatMap_cons, List.length_append, List.sum_append, i1, i2, rs, List.length_replicate]
    refine ⟨by omega, ?_⟩
    rw [Int.toNat_of_nonneg p0]
end M59

set_option autoImplicit false
/-! the greatest of s * (c * x - m * floor((c * x + d) / m)) -/
namespace M59
theorem fl {m : Int} (h : 0 < m) (N : Int) : m * (N / m) ≤ N ∧ N < m * (N / m) + m := by
  have a := Int.emod_add_mul_ediv N m
  have b := Int.emod_nonneg N (show m ≠ 0 by omega)
  have c := Int.emod_lt_of_pos N h
  omega
theorem le_fl {c : Int} (h : 0 < c) {x k N : Int} (h1 : c * x ≤ N) (h2 : N < c * k + c) : x ≤ k := by
  have h3 : c * x < c * (k + 1) := by rw [Int.mul_add]; omega
  have := Int.lt_of_mul_lt_mul_left h3 (by omega)
  omega
theorem fl_uniq {m : Int} (h : 0 < m) {N y : Int} (h1 : m * y ≤ N) (h2 : N < m * y + m) : N / m = y := by
  have f := fl h N
  have a := le_fl h (x := y) (k := N / m) h1 f.2
  have b := le_fl h (x := N / m) (k := y) f.1 h2
  omega
theorem mul_le {c x y : Int} (h : 0 ≤ c) (h' : x ≤ y) : c * x ≤ c * y := Int.mul_le_mul_of_nonneg_left h' h
/-- the values at hand -/
def vals (n m s c d more u : Int) : Prop := ∃ x, 0 ≤ x ∧ x < n ∧ u = more + (s * (c * x) - s * (m * ((c * x + d) / m)))
theorem vals_norm {n m s c d more u : Int} (hm : 0 < m) : vals n m s c d more u ↔ vals n m s (c % m) (d % m) (more + -(s * m) * (d / m)) u := by
  unfold vals
  refine exists_congr fun x => and_congr_right fun _ => and_congr_right fun _ => ?_
  have e1 := (Int.emod_add_mul_ediv c m).symm
  have e2 := (Int.emod_add_mul_ediv d m).symm
  generalize hc : c % m = c1 at *
  generalize hk : c / m = k at *
  generalize hd : d % m = d1 at *
  generalize hl : d / m = l at *
  have e3 : (c * x + d) / m = (c1 * x + d1) / m + (k * x + l) := by
    rw [e1, e2, show (c1 + m * k) * x + (d1 + m * l) = (c1 * x + d1) + m * (k * x + l) by rw [Int.add_mul, Int.mul_add, Int.mul_assoc]; omega]
    exact Int.add_mul_ediv_left _ _ (by omega)
  rw [e3]
  generalize (c1 * x + d1) / m = z
  have e4 : s * (c * x) - s * (m * (z + (k * x + l))) = s * (c1 * x) - s * (m * z) + -(s * m) * l := by
    rw [e1, Int.add_mul, Int.mul_add, Int.mul_add, Int.mul_add, Int.mul_add, Int.mul_add, Int.mul_assoc m k x, Int.neg_mul, Int.mul_assoc s m l]
    omega
  rw [e4]
  omega
structure Step (n m s c d more : Int) : Prop where
  n0 : 0 < n
  m0 : 0 < m
  s1 : s = 1 ∨ s = -1
  c0 : 0 ≤ c
  c1 : c < m
  d0 : 0 ≤ d
  d1 : d < m
section
variable {n m s c d more u : Int}
theorem Step.top0 (t : Step n m s c d more) : 0 ≤ (c * (n - 1) + d) / m ∧ (c * (n - 1) + d) / m < n := by
  have := t.n0; have := t.m0; have := t.c0; have := t.c1; have := t.d0; have := t.d1
  have h0 : 0 ≤ c * (n - 1) := Int.mul_nonneg t.c0 (by omega)
  refine ⟨Int.ediv_nonneg (by omega) (by omega), ?_⟩
  have h2 : c * (n - 1) ≤ (m - 1) * (n - 1) := Int.mul_le_mul_of_nonneg_right (by omega) (by omega)
  rw [Int.sub_mul, Int.one_mul] at h2
  have f := fl t.m0 (c * (n - 1) + d)
  have := le_fl t.m0 (x := (c * (n - 1) + d) / m) (k := n - 1) (N := m * (n - 1) + (m - 1)) (by omega) (by omega)
  omega
theorem Step.end0 (t : Step n m s c d more) : vals n m s c d more more := by
  refine ⟨0, by omega, t.n0, ?_⟩
  have : d / m = 0 := Int.ediv_eq_zero_of_lt t.d0 t.d1
  rw [Int.mul_zero, Int.zero_add, this]
  omega
theorem Step.end1 (t : Step n m s c d more) : vals n m s c d more (more + s * c * (n - 1) + -(s * m) * ((c * (n - 1) + d) / m)) := by
  refine ⟨n - 1, by have := t.n0; omega, by omega, ?_⟩
  rw [Int.mul_assoc, Int.neg_mul, Int.mul_assoc s m]
  omega
/-- the floor stays zero -/
theorem Step.flat (t : Step n m s c d more) (h : (c * (n - 1) + d) / m = 0) (hu : vals n m s c d more u) : u ≤ more ∨ u ≤ more + s * c * (n - 1) + -(s * m) * ((c * (n - 1) + d) / m) := by
  obtain ⟨x, h0, h1, rfl⟩ := hu
  have f := fl t.m0 (c * (n - 1) + d)
  rw [h] at f ⊢
  have g := mul_le t.c0 (show x ≤ n - 1 by omega)
  have g0 : 0 ≤ c * x := Int.mul_nonneg t.c0 h0
  have z : (c * x + d) / m = 0 := Int.ediv_eq_zero_of_lt (by have := t.d0; omega) (by omega)
  rw [z]
  simp only [Int.mul_zero, Int.sub_zero, Int.add_zero]
  rw [Int.mul_assoc]
  rcases t.s1 with e | e
  · right; rw [e, Int.one_mul, Int.one_mul]; omega
  · left; rw [e, Int.neg_mul, Int.one_mul]; omega
theorem Step.cpos (t : Step n m s c d more) (h : (c * (n - 1) + d) / m ≠ 0) : 0 < c := by
  have := t.c0
  rcases Int.lt_or_le 0 c with g | g
  · exact g
  · have e : c = 0 := by omega
    subst e
    rw [Int.zero_mul, Int.zero_add] at h
    exact absurd (Int.ediv_eq_zero_of_lt t.d0 t.d1) h
/-- upward -/
theorem Step.up (t : Step n m 1 c d more) (h : (c * (n - 1) + d) / m ≠ 0) :
    (∀ u, vals ((c * (n - 1) + d) / m) c (-1) m (m - d - 1) more u → vals n m 1 c d more u) ∧
    ∀ u, vals n m 1 c d more u → u ≤ more + 1 * c * (n - 1) + -(1 * m) * ((c * (n - 1) + d) / m) ∨ ∃ v, vals ((c * (n - 1) + d) / m) c (-1) m (m - d - 1) more v ∧ u ≤ v := by
  have cp := t.cpos h
  have tp := t.top0
  have ft := fl t.m0 (c * (n - 1) + d)
  have m0 := t.m0
  have c1 := t.c1
  have d0 := t.d0
  have d1 := t.d1
  generalize ht : (c * (n - 1) + d) / m = top at *
  constructor
  · rintro u ⟨y, y0, y1, rfl⟩
    have fx := fl cp (m * y + (m - d - 1))
    generalize hx : (m * y + (m - d - 1)) / c = x at *
    have my := mul_le (show 0 ≤ m by omega) y0
    have my2 := mul_le (show 0 ≤ m by omega) (show y + 1 ≤ top by omega)
    rw [Int.mul_add] at my2
    have fy : (c * x + d) / m = y := fl_uniq t.m0 (by omega) (by omega)
    refine ⟨x, ?_, ?_, ?_⟩
    · have := le_fl cp (x := 0) (k := x) (N := m * y + (m - d - 1)) (by omega) fx.2
      exact this
    · have := le_fl cp (x := x) (k := n - 1) (N := m * y + (m - d - 1)) fx.1 (by omega)
      omega
    · rw [fy]; omega
  · rintro u ⟨x, x0, x1, rfl⟩
    have fx := fl t.m0 (c * x + d)
    generalize hy : (c * x + d) / m = y at *
    have cx := mul_le t.c0 (show x ≤ n - 1 by omega)
    have cx0 := mul_le t.c0 x0
    have yt := le_fl t.m0 (x := y) (k := top) (N := c * (n - 1) + d) (by omega) ft.2
    have y0 := le_fl t.m0 (x := 0) (k := y) (N := c * x + d) (by omega) fx.2
    by_cases e : y = top
    · left
      rw [e]
      simp only [Int.one_mul, Int.neg_mul]
      omega
    · right
      have fz := fl cp (m * y + (m - d - 1))
      refine ⟨_, ⟨y, y0, by omega, rfl⟩, ?_⟩
      have := le_fl cp (x := x) (k := (m * y + (m - d - 1)) / c) (N := m * y + (m - d - 1)) (by omega) fz.2
      have := mul_le t.c0 this
      simp only [Int.one_mul, Int.neg_mul]
      omega
/-- downward -/
theorem Step.down (t : Step n m (-1) c d more) (h : (c * (n - 1) + d) / m ≠ 0) :
    (∀ u, vals ((c * (n - 1) + d) / m) c 1 m (m - (d - c) - 1) (more + m) u → vals n m (-1) c d more u) ∧
    ∀ u, vals n m (-1) c d more u → u ≤ more ∨ ∃ v, vals ((c * (n - 1) + d) / m) c 1 m (m - (d - c) - 1) (more + m) v ∧ u ≤ v := by
  have cp := t.cpos h
  have tp := t.top0
  have ft := fl t.m0 (c * (n - 1) + d)
  have m0 := t.m0
  have c1 := t.c1
  have d0 := t.d0
  have d1 := t.d1
  generalize ht : (c * (n - 1) + d) / m = top at *
  constructor
  · rintro u ⟨y, y0, y1, rfl⟩
    have fx := fl cp (m * y + (m - (d - c) - 1))
    generalize hx : (m * y + (m - (d - c) - 1)) / c = x at *
    have my := mul_le (show 0 ≤ m by omega) y0
    have my2 := mul_le (show 0 ≤ m by omega) (show y + 1 ≤ top by omega)
    rw [Int.mul_add] at my2
    have fy : (c * x + d) / m = y + 1 := fl_uniq t.m0 (by rw [Int.mul_add]; omega) (by rw [Int.mul_add]; omega)
    refine ⟨x, ?_, ?_, ?_⟩
    · have := le_fl cp (x := 0) (k := x) (N := m * y + (m - (d - c) - 1)) (by omega) fx.2
      exact this
    · have := le_fl cp (x := x - 1) (k := n - 2) (N := m * top - d - 1) (by rw [Int.mul_sub]; omega) (by have := Int.mul_sub c n 1; have := Int.mul_sub c n 2; omega)
      omega
    · rw [fy, Int.mul_add]; omega
  · rintro u ⟨x, x0, x1, rfl⟩
    have fx := fl t.m0 (c * x + d)
    generalize hy : (c * x + d) / m = y at *
    have cx := mul_le t.c0 (show x ≤ n - 1 by omega)
    have cx0 := mul_le t.c0 x0
    have yt := le_fl t.m0 (x := y) (k := top) (N := c * (n - 1) + d) (by omega) ft.2
    have y0 := le_fl t.m0 (x := 0) (k := y) (N := c * x + d) (by omega) fx.2
    by_cases e : y = 0
    · left
      rw [e]
      simp only [Int.mul_zero, Int.neg_mul, Int.one_mul]
      omega
    · right
      have fz := fl cp (m * (y - 1) + (m - (d - c) - 1))
      refine ⟨_, ⟨y - 1, by omega, by omega, rfl⟩, ?_⟩
      rw [Int.mul_sub] at *
      have := le_fl cp (x := (m * y - m * 1 + (m - (d - c) - 1)) / c) (k := x) (N := m * y - m * 1 + (m - (d - c) - 1)) fz.1 (by omega)
      have := mul_le t.c0 this
      simp only [Int.one_mul, Int.neg_mul]
      omega
end
end M59

set_option autoImplicit false
/-! the greatest of a * x + b * floor((c * x + d) / m) -/
namespace M58
open M59
def valsG (n m a b c d more u : Int) : Prop := ∃ x, 0 ≤ x ∧ x < n ∧ u = more + (a * x + b * ((c * x + d) / m))
theorem valsG_norm {n m a b c d more u : Int} (hm : 0 < m) : valsG n m a b c d more u ↔ valsG n m (a + b * (c / m)) b (c % m) (d % m) (more + b * (d / m)) u := by
  unfold valsG
  refine exists_congr fun x => and_congr_right fun _ => and_congr_right fun _ => ?_
  have e1 := (Int.emod_add_mul_ediv c m).symm
  have e2 := (Int.emod_add_mul_ediv d m).symm
  generalize hc : c % m = c1 at *
  generalize hk : c / m = k at *
  generalize hd : d % m = d1 at *
  generalize hl : d / m = l at *
  have e3 : (c * x + d) / m = (c1 * x + d1) / m + (k * x + l) := by
    rw [e1, e2, show (c1 + m * k) * x + (d1 + m * l) = (c1 * x + d1) + m * (k * x + l) by rw [Int.add_mul, Int.mul_add, Int.mul_assoc]; omega]
    exact Int.add_mul_ediv_left _ _ (by omega)
  rw [e3]
  generalize (c1 * x + d1) / m = z
  rw [Int.mul_add, Int.mul_add, Int.add_mul, Int.mul_assoc b k x]
  omega
theorem step1 {n m c d : Int} (n0 : 0 < n) (m0 : 0 < m) (c0 : 0 ≤ c) (c1 : c < m) (d0 : 0 ≤ d) (d1 : d < m) : Step n m 1 c d 0 := ⟨n0, m0, .inl rfl, c0, c1, d0, d1⟩
section
variable {n m a b c d more u : Int} (t : Step n m 1 c d 0)
include t
theorem endG0 : valsG n m a b c d more more := by
  refine ⟨0, by omega, t.n0, ?_⟩
  have : d / m = 0 := Int.ediv_eq_zero_of_lt t.d0 t.d1
  rw [Int.mul_zero, Int.mul_zero, Int.zero_add d, this, Int.mul_zero]
  omega
theorem endG1 : valsG n m a b c d more (more + a * (n - 1) + b * ((c * (n - 1) + d) / m)) := ⟨n - 1, by have := t.n0; omega, by omega, by omega⟩
/-- where the floor lies -/
theorem flG {x : Int} (h0 : 0 ≤ x) (h1 : x < n) : 0 ≤ (c * x + d) / m ∧ (c * x + d) / m ≤ (c * (n - 1) + d) / m := by
  have f := fl t.m0 (c * x + d)
  have g := fl t.m0 (c * (n - 1) + d)
  have cx := mul_le t.c0 (show x ≤ n - 1 by omega)
  have cx0 := mul_le t.c0 h0
  have d0 := t.d0
  exact ⟨le_fl t.m0 (x := 0) (N := c * x + d) (by omega) f.2, le_fl t.m0 (N := c * (n - 1) + d) (by omega) g.2⟩
theorem flatG (h : (c * (n - 1) + d) / m = 0) (hu : valsG n m a b c d more u) : u ≤ more ∨ u ≤ more + a * (n - 1) + b * ((c * (n - 1) + d) / m) := by
  obtain ⟨x, h0, h1, rfl⟩ := hu
  have z := flG t h0 h1
  rw [h] at z ⊢
  rw [show (c * x + d) / m = 0 by omega]
  simp only [Int.mul_zero, Int.add_zero]
  rcases Int.le_total 0 a with e | e
  · right
    have := mul_le e (show x ≤ n - 1 by omega)
    omega
  · left
    have := Int.mul_nonpos_of_nonpos_of_nonneg e h0
    omega
theorem riseG (ha : 0 ≤ a) (hb : 0 ≤ b) (hu : valsG n m a b c d more u) : u ≤ more + a * (n - 1) + b * ((c * (n - 1) + d) / m) := by
  obtain ⟨x, h0, h1, rfl⟩ := hu
  have z := flG t h0 h1
  have := mul_le ha (show x ≤ n - 1 by omega)
  have := mul_le hb z.2
  omega
theorem fallG (ha : a ≤ 0) (hb : b ≤ 0) (hu : valsG n m a b c d more u) : u ≤ more := by
  obtain ⟨x, h0, h1, rfl⟩ := hu
  have z := flG t h0 h1
  have := Int.mul_nonpos_of_nonpos_of_nonneg ha h0
  have := Int.mul_nonpos_of_nonpos_of_nonneg hb z.1
  omega
theorem upG (ha : 0 < a) (h : (c * (n - 1) + d) / m ≠ 0) :
    (∀ u, valsG ((c * (n - 1) + d) / m) c b a m (m - d - 1) more u → valsG n m a b c d more u) ∧
    ∀ u, valsG n m a b c d more u → u ≤ more + a * (n - 1) + b * ((c * (n - 1) + d) / m) ∨ ∃ v, valsG ((c * (n - 1) + d) / m) c b a m (m - d - 1) more v ∧ u ≤ v := by
  have cp := t.cpos h
  have tp := t.top0
  have ft := fl t.m0 (c * (n - 1) + d)
  have m0 := t.m0
  have c1 := t.c1
  have d0 := t.d0
  have d1 := t.d1
  have fG := fun x (h0 : 0 ≤ x) (h1 : x < n) => flG t h0 h1
  generalize ht : (c * (n - 1) + d) / m = top at *
  constructor
  · rintro u ⟨y, y0, y1, rfl⟩
    have fx := fl cp (m * y + (m - d - 1))
    generalize hx : (m * y + (m - d - 1)) / c = x at *
    have my := mul_le (show 0 ≤ m by omega) y0
    have my2 := mul_le (show 0 ≤ m by omega) (show y + 1 ≤ top by omega)
    rw [Int.mul_add] at my2
    have fy : (c * x + d) / m = y := fl_uniq t.m0 (by omega) (by omega)
    refine ⟨x, ?_, ?_, ?_⟩
    · have := le_fl cp (x := 0) (k := x) (N := m * y + (m - d - 1)) (by omega) fx.2
      exact this
    · have := le_fl cp (x := x) (k := n - 1) (N := m * y + (m - d - 1)) fx.1 (by omega)
      omega
    · rw [fy]; omega
  · rintro u ⟨x, x0, x1, rfl⟩
    have fx := fl t.m0 (c * x + d)
    have yy := fG x x0 x1
    generalize hy : (c * x + d) / m = y at *
    by_cases e : y = top
    · left
      have := mul_le (show 0 ≤ a by omega) (show x ≤ n - 1 by omega)
      rw [e]
      omega
    · right
      have fz := fl cp (m * y + (m - d - 1))
      refine ⟨_, ⟨y, yy.1, by omega, rfl⟩, ?_⟩
      have := le_fl cp (x := x) (k := (m * y + (m - d - 1)) / c) (N := m * y + (m - d - 1)) (by omega) fz.2
      have := mul_le (show 0 ≤ a by omega) this
      omega
theorem downG (ha : a < 0) (h : (c * (n - 1) + d) / m ≠ 0) :
    (∀ u, valsG ((c * (n - 1) + d) / m) c b a m (m - (d - c) - 1) (more + b) u → valsG n m a b c d more u) ∧
    ∀ u, valsG n m a b c d more u → u ≤ more ∨ ∃ v, valsG ((c * (n - 1) + d) / m) c b a m (m - (d - c) - 1) (more + b) v ∧ u ≤ v := by
  have cp := t.cpos h
  have tp := t.top0
  have ft := fl t.m0 (c * (n - 1) + d)
  have m0 := t.m0
  have c1 := t.c1
  have d0 := t.d0
  have d1 := t.d1
  have fG := fun x (h0 : 0 ≤ x) (h1 : x < n) => flG t h0 h1
  generalize ht : (c * (n - 1) + d) / m = top at *
  constructor
  · rintro u ⟨y, y0, y1, rfl⟩
    have fx := fl cp (m * y + (m - (d - c) - 1))
    generalize hx : (m * y + (m - (d - c) - 1)) / c = x at *
    have my := mul_le (show 0 ≤ m by omega) y0
    have my2 := mul_le (show 0 ≤ m by omega) (show y + 1 ≤ top by omega)
    rw [Int.mul_add] at my2
    have fy : (c * x + d) / m = y + 1 := fl_uniq t.m0 (by rw [Int.mul_add]; omega) (by rw [Int.mul_add]; omega)
    refine ⟨x, ?_, ?_, ?_⟩
    · have := le_fl cp (x := 0) (k := x) (N := m * y + (m - (d - c) - 1)) (by omega) fx.2
      exact this
    · have := le_fl cp (x := x - 1) (k := n - 2) (N := m * top - d - 1) (by rw [Int.mul_sub]; omega) (by have := Int.mul_sub c n 1; have := Int.mul_sub c n 2; omega)
      omega
    · rw [fy, Int.mul_add]; omega
  · rintro u ⟨x, x0, x1, rfl⟩
    have fx := fl t.m0 (c * x + d)
    have yy := fG x x0 x1
    generalize hy : (c * x + d) / m = y at *
    by_cases e : y = 0
    · left
      rw [e]
      have := Int.mul_nonpos_of_nonpos_of_nonneg (show a ≤ 0 by omega) x0
      omega
    · right
      have fz := fl cp (m * (y - 1) + (m - (d - c) - 1))
      refine ⟨_, ⟨y - 1, by omega, by omega, rfl⟩, ?_⟩
      rw [Int.mul_sub m] at *
      have := le_fl cp (x := (m * y - m * 1 + (m - (d - c) - 1)) / c) (k := x) (N := m * y - m * 1 + (m - (d - c) - 1)) fz.1 (by omega)
      have := Int.mul_le_mul_of_nonpos_left (show a ≤ 0 by omega) this
      rw [Int.mul_sub b]
      omega
end
/-! ### agreement -/
def day (p q c e : Int) : Int := (p * e + c) / q
end M58

set_option autoImplicit false
namespace M58
open M59
theorem day_of {p q c e d : Int} (hq : 0 < q) : day p q c e = d ↔ q * d ≤ p * e + c ∧ p * e + c < q * d + q := by
  unfold day
  constructor
  · intro h
    have f := fl hq (p * e + c)
    rw [h] at f
    exact f
  · rintro ⟨h1, h2⟩
    exact fl_uniq hq h1 h2
/-- a whole day among any q events -/
theorem whole_at {p q c u k : Int} (hq : 0 < q) (hu : p * u = 1 + q * k) (s : Int) : ∃ e d, s ≤ e ∧ e < s + q ∧ p * e + c = q * d := by
  have a := Int.emod_nonneg (-(c * u) - s) (show q ≠ 0 by omega)
  have b := Int.emod_lt_of_pos (-(c * u) - s) hq
  have e := (Int.emod_add_mul_ediv (-(c * u) - s) q).symm
  generalize (-(c * u) - s) % q = r at a b e
  generalize (-(c * u) - s) / q = m at e
  refine ⟨s + r, -(c * k) - p * m, by omega, by omega, ?_⟩
  rw [show s + r = -(c * u) - q * m by omega, Int.mul_sub, Int.mul_neg, Int.mul_left_comm p c u, hu, Int.mul_add, Int.mul_one, Int.mul_sub, Int.mul_neg, Int.mul_left_comm c q k, Int.mul_left_comm p q m]
  omega
structure Wd (p q : Int) : Prop where
  q0 : 0 < q
  co : Int.gcd p q = 1
  inv : ∃ u k, p * u = 1 + q * k
theorem same_slope {p q p' q' : Int} (w : Wd p q) (w' : Wd p' q') (h : p * q' = p' * q) : p = p' ∧ q = q' := by
  have d1 : q ∣ q' := dvd_of_co w.co ⟨p', by rw [h, Int.mul_comm]⟩
  have d2 : q' ∣ q := dvd_of_co w'.co ⟨p, by rw [← h, Int.mul_comm]⟩
  have e : q = q' := Int.le_antisymm (Int.le_of_dvd w'.q0 d1) (Int.le_of_dvd w.q0 d2)
  subst e
  have := w.q0
  exact ⟨Int.eq_of_mul_eq_mul_right (by omega) h, rfl⟩
theorem cross {p q c p' q' c' e2 e3 d2 d3 : Int} (q0 : 0 < q) (q0' : 0 < q') (sl : p * q' < p' * q) (h2 : p * e2 + c = q * d2) (h3 : p' * e3 + c' = q' * d3) (a2 : q' * d2 ≤ p' * e2 + c') (a3 : q * d3 ≤ p * e3 + c) (hl : e2 < e3) : False := by
  have g2 := mul_le (show 0 ≤ q by omega) a2
  have g3 := mul_le (show 0 ≤ q' by omega) a3
  rw [Int.mul_left_comm q q' d2, ← h2] at g2
  rw [Int.mul_left_comm q' q d3, ← h3] at g3
  have s1 := Int.mul_lt_mul_of_pos_right sl (show 0 < e3 - e2 by omega)
  rw [Int.mul_sub, Int.mul_sub] at s1
  rw [Int.mul_add, Int.mul_add] at g2 g3
  have r1 : q' * (p * e2) = p * q' * e2 := by rw [← Int.mul_assoc, Int.mul_comm q' p]
  have r2 : q * (p' * e2) = p' * q * e2 := by rw [← Int.mul_assoc, Int.mul_comm q p']
  have r3 : q' * (p * e3) = p * q' * e3 := by rw [← Int.mul_assoc, Int.mul_comm q' p]
  have r4 : q * (p' * e3) = p' * q * e3 := by rw [← Int.mul_assoc, Int.mul_comm q p']
  omega
/-- unlike worlds part among any q + q' events -/
theorem part_in {p q c p' q' c' : Int} (w : Wd p q) (w' : Wd p' q') (hne : ¬ (p = p' ∧ q = q' ∧ c = c')) (s : Int) : ∃ e, s ≤ e ∧ e < s + (q + q') ∧ day p q c e ≠ day p' q' c' e := by
  have q0 := w.q0
  have q0' := w'.q0
  obtain ⟨u, k, hu⟩ := w.inv
  obtain ⟨u', k', hu'⟩ := w'.inv
  have dd : ∀ e d, p * e + c = q * d → day p q c e = d := fun e d h => (day_of q0).mpr ⟨by omega, by omega⟩
  have dd' : ∀ e d, p' * e + c' = q' * d → day p' q' c' e = d := fun e d h => (day_of q0').mpr ⟨by omega, by omega⟩
  rcases Int.lt_trichotomy (p * q') (p' * q) with sl | sl | sl
  · obtain ⟨e2, d2, a1, a2, a3⟩ := whole_at (c := c) q0 hu s
    obtain ⟨e3, d3, b1, b2, b3⟩ := whole_at (c := c') q0' hu' (s + q)
    by_cases h2 : day p q c e2 = day p' q' c' e2
    · refine ⟨e3, by omega, by omega, fun h3 => ?_⟩
      rw [dd e2 d2 a3] at h2
      rw [dd' e3 d3 b3] at h3
      exact cross q0 q0' sl a3 b3 ((day_of q0').mp h2.symm).1 ((day_of q0).mp h3).1 (by omega)
    · exact ⟨e2, by omega, by omega, h2⟩
  · obtain ⟨rfl, rfl⟩ := same_slope w w' sl
    rcases Int.lt_trichotomy c c' with g | g | g
    · obtain ⟨e, d, b1, b2, b3⟩ := whole_at (c := c') q0' hu' s
      refine ⟨e, by omega, by omega, fun h => ?_⟩
      rw [dd' e d b3] at h
      have := ((day_of q0).mp h).1
      omega
    · exact absurd ⟨rfl, rfl, g⟩ hne
    · obtain ⟨e, d, b1, b2, b3⟩ := whole_at (c := c) q0 hu s
      refine ⟨e, by omega, by omega, fun h => ?_⟩
      rw [dd e d b3] at h
      have := ((day_of q0).mp h.symm).1
      omega
  · obtain ⟨e2, d2, a1, a2, a3⟩ := whole_at (c := c') q0' hu' s
    obtain ⟨e3, d3, b1, b2, b3⟩ := whole_at (c := c) q0 hu (s + q')
    by_cases h2 : day p q c e2 = day p' q' c' e2
    · refine ⟨e3, by omega, by omega, fun h3 => ?_⟩
      rw [dd' e2 d2 a3] at h2
      rw [dd e3 d3 b3] at h3
      exact cross q0' q0 sl a3 b3 ((day_of q0).mp h2).1 ((day_of q0').mp h3.symm).1 (by omega)
    · exact ⟨e2, by omega, by omega, h2⟩
/-- neighbours that begin together -/
theorem neighbours {p q k l : Int} (q0 : 0 < q) (l0 : 0 < l) (h : p * l = 1 + q * k) : (∀ e, -l < e → e < q → day k l 0 e = day p q 0 e) ∧ day k l 0 q ≠ day p q 0 q ∧ day k l 0 (-l) ≠ day p q 0 (-l) := by
  have key : ∀ e n, l * (p * e - q * n) + q * (l * n - k * e) = e := fun e n => by
    rw [Int.mul_sub, Int.mul_sub, ← Int.mul_assoc l p e, Int.mul_comm l p, h, Int.add_mul, Int.one_mul, Int.mul_left_comm l q n, Int.mul_assoc q k e]
    omega
  refine ⟨fun e h1 h2 => ?_, ?_, ?_⟩
  · have fp := fl q0 (p * e + 0)
    have fk := fl l0 (k * e + 0)
    unfold day
    generalize hn : (p * e + 0) / q = n at *
    generalize hm : (k * e + 0) / l = m at *
    rcases Int.lt_trichotomy m n with g | g | g
    · -- k e < l (m + 1) <= l n, q n <= p e
      have a := key e n
      have x : 0 ≤ p * e - q * n := by omega
      have y : 1 ≤ l * n - k * e := by
        have := mul_le (show 0 ≤ l by omega) (show m + 1 ≤ n by omega)
        rw [Int.mul_add] at this
        omega
      have x2 := Int.mul_nonneg (show 0 ≤ l by omega) x
      have y2 := mul_le (show 0 ≤ q by omega) y
      omega
    · exact g
    · -- p e < q (n + 1) <= q m, l m <= k e
      have a := key e m
      have x : p * e - q * m ≤ -1 := by
        have := mul_le (show 0 ≤ q by omega) (show n + 1 ≤ m by omega)
        rw [Int.mul_add] at this
        omega
      have y : l * m - k * e ≤ 0 := by omega
      have x2 := mul_le (show 0 ≤ l by omega) x
      have y2 := mul_le (show 0 ≤ q by omega) y
      omega
  · have e1 : day p q 0 q = p := (day_of q0).mpr ⟨by rw [Int.mul_comm]; omega, by rw [Int.mul_comm]; omega⟩
    rw [e1]
    intro g
    have := ((day_of l0).mp g).1
    rw [Int.mul_comm l p, h, Int.mul_comm] at this
    omega
  · have e1 : day k l 0 (-l) = -k := (day_of l0).mpr ⟨by rw [Int.mul_neg, Int.mul_neg, Int.mul_comm]; omega, by rw [Int.mul_neg, Int.mul_neg, Int.mul_comm]; omega⟩
    rw [e1]
    intro g
    have := ((day_of q0).mp g.symm).1
    rw [Int.mul_neg, Int.mul_neg, h] at this
    omega
end M58

set_option maxRecDepth 100000
set_option maxHeartbeats 2000000
set_option autoImplicit false
namespace P58
open PySem L2 EV M59
/-- the stream: places 0 (script), 1 (its copy), 2 (the stream) -/
def mk (o : O) (ns : List Int) (cur j : Int) (rest : Store) : Store := o :: .lst (ns.map D.int) :: .lst [.ref 1, .int cur, .int j] :: rest
theorem stream_ok (ns : List Int) : F__law_stream [.ref 0] (scrS ns) = .ok (.ref 2) (mk (.scr (ns.map D.int)) ns 0 0 []) := by
  simp [F__law_stream, b__law_stream, scrS, cList, mk]
@[simp] theorem mk2 (o : O) (ns : List Int) (cur j : Int) (rest : Store) : (mk o ns cur j rest)[2]? = some (.lst [.ref 1, .int cur, .int j]) := rfl
@[simp] theorem mk1 (o : O) (ns : List Int) (cur j : Int) (rest : Store) : (mk o ns cur j rest)[1]? = some (.lst (ns.map D.int)) := rfl
@[simp] theorem mk_set1 (o : O) (ns : List Int) (cur j c : Int) (rest : Store) : dSetIx (.ref 2) (.int 1) (.int c) (mk o ns cur j rest) = .ok () (mk o ns c j rest) := rfl
@[simp] theorem mk_set2 (o : O) (ns : List Int) (cur j c : Int) (rest : Store) : dSetIx (.ref 2) (.int 2) (.int c) (mk o ns cur j rest) = .ok () (mk o ns cur c rest) := rfl
theorem next_ok (o : O) (ns : List Int) (cur j many : Int) (rest : Store) (h0 : 0 ≤ cur) (hj : 0 ≤ j) (hm : 0 < many) (hb : Bd many) :
    ∃ d cur' j', 0 ≤ d ∧ d < many ∧ 0 ≤ cur' ∧ 0 ≤ j' ∧ F__law_next [.ref 2, .int many] (mk o ns cur j rest) = .ok (.int d) (mk o ns cur' j' rest) := by
  have tail : ∀ (c : Int), 0 ≤ c → 0 ≤ c % many ∧ c % many < many ∧ 0 ≤ c / many := fun c hc => ⟨Int.emod_nonneg _ (by omega), Int.emod_lt_of_pos _ hm, Int.ediv_nonneg hc (by omega)⟩
  by_cases hc : cur = 0
  · by_cases hk : j < ns.length
    · obtain ⟨v, e1⟩ : ∃ v : Int, atI (ns.map D.int) j = some (.int v) := by
        rw [atI_of _ hj, List.getElem?_map, List.getElem?_eq_getElem (by omega)]
        exact ⟨_, rfl⟩
      have fin : ∀ c : Int, 0 ≤ c → ∃ d cur' j', 0 ≤ d ∧ d < many ∧ 0 ≤ cur' ∧ 0 ≤ j' ∧ (R.ok (D.int (c % many)) (mk o ns (c / many) (j + 1) rest) : R D) = .ok (.int d) (mk o ns cur' j' rest) := fun c h => ⟨_, _, _, (tail c h).1, (tail c h).2.1, (tail c h).2.2, by omega, rfl⟩
      have p1 : (0 : Int) < 1000000000000000000000000000000000000000000000000000000000000 := by decide
      subst hc
      generalize hg : (if v < 0 then -v else v) = g
      have hg0 : 0 ≤ g := by rw [← hg]; split <;> omega
      have g1 : 0 ≤ g % 1000000000000000000000000000000000000000000000000000000000000 := Int.emod_nonneg _ (by decide)
      by_cases hs : g % 1000000000000000000000000000000000000000000000000000000000000 < 1000000000000000000
      · refine Exists.imp ?_ (fin (((((g % 1000000000000000000000000000000000000000000000000000000000000 * 48271 + j * 69621 + 11) % 2147483647) * 16807 + 13) % 2147483647 * 65537) + (g % 1000000000000000000000000000000000000000000000000000000000000 * 48271 + j * 69621 + 11) % 2147483647) (by omega))
        rintro d ⟨c', j', a1, a2, a3, a4, e⟩
        refine ⟨c', j', a1, a2, a3, a4, ?_⟩
        rw [← e]
        simp [F__law_next, b__law_next, dMod_pos hm, dDiv_bd hm hb, dIx_ref (mk2 ..), dIx_ref (mk1 ..), cLen_ref (mk1 ..), hk, e1, hg, dMod_pos p1, hs, dMul_r, dMod_pos]
      · refine Exists.imp ?_ (fin (g % 1000000000000000000000000000000000000000000000000000000000000) g1)
        rintro d ⟨c', j', a1, a2, a3, a4, e⟩
        refine ⟨c', j', a1, a2, a3, a4, ?_⟩
        rw [← e]
        simp [F__law_next, b__law_next, dMod_pos hm, dDiv_bd hm hb, dIx_ref (mk2 ..), dIx_ref (mk1 ..), cLen_ref (mk1 ..), hk, e1, hg, dMod_pos p1, hs, dMul_r, dMod_pos]
    · have fin : ∀ c : Int, 0 ≤ c → ∃ d cur' j', 0 ≤ d ∧ d < many ∧ 0 ≤ cur' ∧ 0 ≤ j' ∧ (R.ok (D.int (c % many)) (mk o ns (c / many) (j + 1) rest) : R D) = .ok (.int d) (mk o ns cur' j' rest) := fun c h => ⟨_, _, _, (tail c h).1, (tail c h).2.1, (tail c h).2.2, by omega, rfl⟩
      subst hc
      have g1 : 0 ≤ 7 + j := by omega
      generalize hg : 7 + j = g at g1
      by_cases hs : g < 1000000000000000000
      · refine Exists.imp ?_ (fin (((((g * 48271 + j * 69621 + 11) % 2147483647) * 16807 + 13) % 2147483647 * 65537) + (g * 48271 + j * 69621 + 11) % 2147483647) (by omega))
        rintro d ⟨c', j', a1, a2, a3, a4, e⟩
        refine ⟨c', j', a1, a2, a3, a4, ?_⟩
        rw [← e]
        simp [F__law_next, b__law_next, dMod_pos hm, dDiv_bd hm hb, dIx_ref (mk2 ..), dIx_ref (mk1 ..), cLen_ref (mk1 ..), hk, hg, hs, dMul_r, dMod_pos]
      · refine Exists.imp ?_ (fin g g1)
        rintro d ⟨c', j', a1, a2, a3, a4, e⟩
        refine ⟨c', j', a1, a2, a3, a4, ?_⟩
        rw [← e]
        simp [F__law_next, b__law_next, dMod_pos hm, dDiv_bd hm hb, dIx_ref (mk2 ..), dIx_ref (mk1 ..), cLen_ref (mk1 ..), hk, hg, hs, dMul_r, dMod_pos]
  · obtain ⟨t1, t2, t3⟩ := tail cur h0
    refine ⟨cur % many, cur / many, j, t1, t2, t3, hj, ?_⟩
    simp [F__law_next, b__law_next, hc, sSetIx, dMod_pos hm, dDiv_bd hm hb, dIx_ref (mk2 ..)]
@[simp] theorem isi_int (i : Int) (S : Store) : cIsi [.int i, .ty "int"] S = .ok (.bl true) S := rfl
@[simp] theorem isi_intb (i : Int) (S : Store) : cIsi [.int i, .ty "bool"] S = .ok (.bl false) S := rfl
@[simp] theorem isi_tup (ds : List D) (S : Store) : cIsi [.tup ds, .ty "tuple"] S = .ok (.bl true) S := rfl
@[simp] theorem is_integer_int (i : Int) (S : Store) : F_is_integer [.int i] S = .ok (.bl true) S := by
  simp [F_is_integer, b_is_integer]
@[simp] theorem is_from_to_int (i l m : Int) (S : Store) : F_is_from_to [.int i, .int l, .int m] S = .ok (.bl (decide (l ≤ i) && decide (i ≤ m))) S := by
  by_cases h : l ≤ i <;> simp [F_is_from_to, b_is_from_to, h]
@[simp] theorem is_tuple_of_tup (ds : List D) (l m : Int) (S : Store) : F_is_tuple_of [.tup ds, .int l, .int m] S = .ok (.bl (decide (l ≤ ds.length) && decide ((ds.length : Int) ≤ m))) S := by
  by_cases h : l ≤ ds.length <;> simp [F_is_tuple_of, b_is_tuple_of, h]
theorem common_loop (S : Store) : ∀ (k : Nat) (b a : Int), b.toNat ≤ k → 0 ≤ b → sWhile (fTru (fVar 1)) (sPar 0 1 (fCons (fVar 1) (fCons (fBin dMod (fVar 0) (fVar 1)) fNil))) [some (.int a), some (.int b)] S = .nx [some (.int (Int.gcd a b : Nat)), some (.int 0)] S ∨ sWhile (fTru (fVar 1)) (sPar 0 1 (fCons (fVar 1) (fCons (fBin dMod (fVar 0) (fVar 1)) fNil))) [some (.int a), some (.int b)] S = .nx [some (.int (-(Int.gcd a b : Nat))), some (.int 0)] S := by
  intro k
  induction k with
  | zero =>
    intro b a h h0
    have e : b = 0 := by omega
    subst e
    rw [sWhile_eq]
    simp
    omega
  | succ k ih =>
    intro b a h h0
    by_cases e : b = 0
    · subst e
      rw [sWhile_eq]
      simp
      omega
    · have p : 0 < b := by omega
      have m0 := Int.emod_nonneg a e
      have m1 := Int.emod_lt_of_pos a p
      rw [sWhile_eq]
      simp [e, dMod_pos p]
      have := ih (a % b) b (by omega) m0
      rw [← M59.gcd_step a b] at this
      simpa using this
theorem common_ok (a b : Int) (h : 0 ≤ b) (S : Store) : F_common_divisor [.int a, .int b] S = .ok (.int (Int.gcd a b : Nat)) S := by
  rcases common_loop S b.toNat b a (Nat.le_refl _) h with e | e
  · simp [F_common_divisor, b_common_divisor, e]
    omega
  · simp [F_common_divisor, b_common_divisor, e]
    intro ha hb; subst ha; subst hb; rfl
def MN : Int := 1000000000000000000000000000000000000000000000000000000000000
theorem is_fraction_ok (p q : Int) (h1 : -MN ≤ p) (h2 : p ≤ MN) (h3 : 1 ≤ q) (h4 : q ≤ MN) (co : Int.gcd p q = 1) (S : Store) : F_is_fraction [.tup [.int p, .int q]] S = .ok (.bl true) S := by
  unfold MN at h1 h2 h4
  simp [F_is_fraction, b_is_fraction, h1, h2, h3, h4, common_ok p q (by omega), co]
theorem is_world_ok (p q c : Int) (h1 : -MN ≤ p) (h2 : p ≤ MN) (h3 : 1 ≤ q) (h4 : q ≤ MN) (co : Int.gcd p q = 1) (h5 : -MN ≤ c) (h6 : c ≤ MN) (S : Store) : F_is_world [.tup [.int p, .int q, .int c]] S = .ok (.bl true) S := by
  have e := is_fraction_ok p q h1 h2 h3 h4 co S
  unfold MN at h5 h6
  have sl : dSl (.tup [.int p, .int q, .int c]) none (some 2) S = .ok (.tup [.int p, .int q]) S := by
    simp [dSl, HT.sIx, cutD]
  simp [F_is_world, b_is_world, sl, e, h5, h6]
theorem check_world_ok (p q c : Int) (d : D) (h1 : -MN ≤ p) (h2 : p ≤ MN) (h3 : 1 ≤ q) (h4 : q ≤ MN) (co : Int.gcd p q = 1) (h5 : -MN ≤ c) (h6 : c ≤ MN) (S : Store) : F_check_world [.tup [.int p, .int q, .int c], d] S = .ok .non S := by
  simp [F_check_world, b_check_world, is_world_ok p q c h1 h2 h3 h4 co h5 h6]
@[simp] theorem check_from_to_ok (v l m : Int) (d : D) (h1 : l ≤ v) (h2 : v ≤ m) (S : Store) : F_check_from_to [.int v, .int l, .int m, d] S = .ok .non S := by
  simp [F_check_from_to, b_check_from_to, h1, h2]
@[simp] theorem check_event_ok (v : Int) (d : D) (h1 : -1000000000000000000 ≤ v) (h2 : v ≤ 1000000000000000000) (S : Store) : F_check_event [.int v, d] S = .ok .non S := by
  simp [F_check_event, b_check_event, h1, h2]
theorem natAbs_le {i b : Int} (h1 : -b ≤ i) (h2 : i ≤ b) : i.natAbs ≤ b.natAbs := by omega
theorem bd_of {i b : Int} (hb : Bd b) (h1 : -b ≤ i) (h2 : i ≤ b) : Bd i := Nat.lt_of_le_of_lt (natAbs_le h1 h2) hb
/-! ### greatest_of -/
abbrev grT := fTru (fK (.bl true))
abbrev grB := (sSeq (sPar 2 4 (fCons (fBin dAdd (fVar 2) (fBin dMul (fVar 3) (fBin dDiv (fVar 4) (fVar 1)))) (fCons (fBin dMod (fVar 4) (fVar 1)) fNil)))
  (sSeq (sPar 6 5 (fCons (fBin dAdd (fVar 6) (fBin dMul (fVar 3) (fBin dDiv (fVar 5) (fVar 1)))) (fCons (fBin dMod (fVar 5) (fVar 1)) fNil)))
  (sSeq (sSet 8 (fBin dDiv (fBin dAdd (fBin dMul (fVar 4) (fBin dSub (fVar 0) (fK (.int 1)))) (fVar 5)) (fVar 1)))
  (sSeq (sSet 9 (fTup (fCons (fVar 6) (fCons (fBin dAdd (fBin dAdd (fVar 6) (fBin dMul (fVar 2) (fBin dSub (fVar 0) (fK (.int 1))))) (fBin dMul (fVar 3) (fVar 8))) fNil))))
  (sSeq (sSet 7 (fIf (fB (fBin dIsN (fVar 7) (fK .non))) (fCB cMax (fCons (fVar 9) fNil)) (fCB cMax (fCons (fVar 7) (fCons (fCB cMax (fCons (fVar 9) fNil)) fNil)))))
  (sSeq (sIf (fOrB (fB (fBin dEq (fVar 8) (fK (.int 0)))) (fOrB (fAndB (fB (fBin dGeI (fVar 2) (fK (.int 0)))) (fB (fBin dGeI (fVar 3) (fK (.int 0))))) (fAndB (fB (fBin dLeI (fVar 2) (fK (.int 0)))) (fB (fBin dLeI (fVar 3) (fK (.int 0))))))) (sRet (fVar 7)) sNil)
  (sSeq (sIf (fB (fBin dLtI (fVar 2) (fK (.int 0)))) (sPar 6 5 (fCons (fBin dAdd (fVar 6) (fVar 3)) (fCons (fBin dSub (fVar 5) (fVar 4)) fNil))) sNil)
  (sAsg (ptTup 6 (ptCons (ptName 0) (ptCons (ptName 1) (ptCons (ptName 2) (ptCons (ptName 3) (ptCons (ptName 4) (ptCons (ptName 5) ptNil))))))) (fTup (fCons (fVar 8) (fCons (fVar 4) (fCons (fVar 3) (fCons (fVar 2) (fCons (fVar 1) (fCons (fBin dSub (fBin dSub (fVar 1) (fVar 5)) (fK (.int 1))) fNil)))))))))))))))
def bD : Option Int → D
  | none => .non
  | some i => .int i
def mx (i j : Int) : Int := if i < j then j else i
def bst (b : Option Int) (i j : Int) : Int := match b with
  | none => mx i j
  | some k => mx k (mx i j)
theorem cMax_mx (i j : Int) (S : Store) : cMax [.int i, .int j] S = .ok (.int (mx i j)) S := rfl
theorem cMax_mx2 (i j : Int) (S : Store) : cMax [.tup [.int i, .int j]] S = .ok (.int (mx i j)) S := rfl
theorem gr_ret (S : Store) (n m a b c d more : Int) (best : Option Int) (t e : Option D) (m0 : 0 < m) (bm : Bd m) (bb : Bd b) (bcm : Bd (c / m)) (bdm : Bd (d / m)) (bc : Bd (c % m)) (bn : Bd (n - 1)) (ba : Bd (a + b * (c / m))) (bt : Bd ((c % m * (n - 1) + d % m) / m)) (a1 c1 more1 d1 top : Int)
    (ha1 : a + b * (c / m) = a1) (hc1 : c % m = c1) (hm1 : more + b * (d / m) = more1) (hd1 : d % m = d1) (ht1 : (c1 * (n - 1) + d1) / m = top) (h : top = 0) :
    grB [some (.int n), some (.int m), some (.int a), some (.int b), some (.int c), some (.int d), some (.int more), some (bD best), t, e] S = .rt (.int (bst best more1 (more1 + a1 * (n - 1) + b * top))) S := by
  rw [hc1, hd1, ht1] at bt
  rw [hc1] at bc
  rw [ha1] at ba
  have h1 := eq_true h
  have h2 := h1
  have h3 := h1
  have h4 := h1
  have h5 := h1
  have h6 := h1
  clear h
  cases best <;> simp [grB, bD, dDiv_bd m0 bm, dMod_pos m0, dMul_bd bb bcm, dMul_bd bb bdm, ha1, hc1, hm1, hd1, dMul_bd bc bn, dMul_bd ba bn, ht1, dMul_bd bb bt, bst, -cMax_int, -cMax_tup2, cMax_mx, cMax_mx2, h1, h2, h3, h4, h5, h6]
theorem gr_up (S : Store) (n m a b c d more : Int) (best : Option Int) (t e : Option D) (m0 : 0 < m) (bm : Bd m) (bb : Bd b) (bcm : Bd (c / m)) (bdm : Bd (d / m)) (bc : Bd (c % m)) (bn : Bd (n - 1)) (ba : Bd (a + b * (c / m))) (bt : Bd ((c % m * (n - 1) + d % m) / m)) (a1 c1 more1 d1 top : Int)
    (ha1 : a + b * (c / m) = a1) (hc1 : c % m = c1) (hm1 : more + b * (d / m) = more1) (hd1 : d % m = d1) (ht1 : (c1 * (n - 1) + d1) / m = top) (h : top ≠ 0) (ga : 0 < a1) (gb : b < 0) :
    grB [some (.int n), some (.int m), some (.int a), some (.int b), some (.int c), some (.int d), some (.int more), some (bD best), t, e] S = .nx [some (.int top), some (.int c1), some (.int b), some (.int a1), some (.int m), some (.int (m - d1 - 1)), some (.int more1), some (.int (bst best more1 (more1 + a1 * (n - 1) + b * top))), some (.int top), some (.tup [.int more1, .int (more1 + a1 * (n - 1) + b * top)])] S := by
  rw [hc1, hd1, ht1] at bt
  rw [hc1] at bc
  rw [ha1] at ba
  have h1 := eq_false h
  have h2 : (0 ≤ a1) = True := eq_true (by omega)
  have h3 : (0 ≤ b) = False := eq_false (by omega)
  have h4 : (a1 ≤ 0) = False := eq_false (by omega)
  have h5 : (b ≤ 0) = True := eq_true (by omega)
  have h6 : (a1 < 0) = False := eq_false (by omega)
  clear h
  cases best <;> simp [grB, bD, dDiv_bd m0 bm, dMod_pos m0, dMul_bd bb bcm, dMul_bd bb bdm, ha1, hc1, hm1, hd1, dMul_bd bc bn, dMul_bd ba bn, ht1, dMul_bd bb bt, bst, -cMax_int, -cMax_tup2, cMax_mx, cMax_mx2, h1, h2, h3, h4, h5, h6]
theorem gr_down (S : Store) (n m a b c d more : Int) (best : Option Int) (t e : Option D) (m0 : 0 < m) (bm : Bd m) (bb : Bd b) (bcm : Bd (c / m)) (bdm : Bd (d / m)) (bc : Bd (c % m)) (bn : Bd (n - 1)) (ba : Bd (a + b * (c / m))) (bt : Bd ((c % m * (n - 1) + d % m) / m)) (a1 c1 more1 d1 top : Int)
    (ha1 : a + b * (c / m) = a1) (hc1 : c % m = c1) (hm1 : more + b * (d / m) = more1) (hd1 : d % m = d1) (ht1 : (c1 * (n - 1) + d1) / m = top) (h : top ≠ 0) (ga : a1 < 0) (gb : 0 < b) :
    grB [some (.int n), some (.int m), some (.int a), some (.int b), some (.int c), some (.int d), some (.int more), some (bD best), t, e] S = .nx [some (.int top), some (.int c1), some (.int b), some (.int a1), some (.int m), some (.int (m - (d1 - c1) - 1)), some (.int (more1 + b)), some (.int (bst best more1 (more1 + a1 * (n - 1) + b * top))), some (.int top), some (.tup [.int more1, .int (more1 + a1 * (n - 1) + b * top)])] S := by
  rw [hc1, hd1, ht1] at bt
  rw [hc1] at bc
  rw [ha1] at ba
  have h1 := eq_false h
  have h2 : (0 ≤ a1) = False := eq_false (by omega)
  have h3 : (0 ≤ b) = True := eq_true (by omega)
  have h4 : (a1 ≤ 0) = True := eq_true (by omega)
  have h5 : (b ≤ 0) = False := eq_false (by omega)
  have h6 : (a1 < 0) = True := eq_true (by omega)
  clear h
  cases best <;> simp [grB, bD, dDiv_bd m0 bm, dMod_pos m0, dMul_bd bb bcm, dMul_bd bb bdm, ha1, hc1, hm1, hd1, dMul_bd bc bn, dMul_bd ba bn, ht1, dMul_bd bb bt, bst, -cMax_int, -cMax_tup2, cMax_mx, cMax_mx2, h1, h2, h3, h4, h5, h6]
structure Mx (v : Int) (best : Option Int) (P : Int → Prop) : Prop where
  att : best = some v ∨ P v
  bds : ∀ b, best = some b → b ≤ v
  all : ∀ u, P u → u ≤ v
theorem mx_ge (i j : Int) : i ≤ mx i j ∧ j ≤ mx i j ∧ (mx i j = i ∨ mx i j = j) := by
  unfold mx
  split <;> omega
theorem bst_ge (best : Option Int) (i j : Int) : i ≤ bst best i j ∧ j ≤ bst best i j ∧ (∀ b, best = some b → b ≤ bst best i j) ∧ (bst best i j = i ∨ bst best i j = j ∨ best = some (bst best i j)) := by
  have h := mx_ge i j
  cases best with
  | none => exact ⟨h.1, h.2.1, (fun b h => by cases h), h.2.2.imp id .inl⟩
  | some k =>
    have g := mx_ge k (mx i j)
    show i ≤ mx k (mx i j) ∧ j ≤ mx k (mx i j) ∧ (∀ b, some k = some b → b ≤ mx k (mx i j)) ∧ (mx k (mx i j) = i ∨ mx k (mx i j) = j ∨ some k = some (mx k (mx i j)))
    refine ⟨by omega, by omega, fun b h => by cases h; exact g.1, ?_⟩
    rcases g.2.2 with e | e
    · exact .inr (.inr (by rw [e]))
    · rw [e]
      exact h.2.2.imp id .inl
theorem Mx.of_top {v : Int} {best : Option Int} {n m s c d more m1 e1 : Int} (P Q : Int → Prop) (h0 : P m1) (h1 : P e1) (q : Mx v (some (bst best m1 e1)) Q) (sub : ∀ u, Q u → P u) (cov : ∀ u, P u → u ≤ m1 ∨ u ≤ e1 ∨ ∃ w, Q w ∧ u ≤ w) : Mx v best P := by
  obtain ⟨g1, g2, g3, g4⟩ := bst_ge best m1 e1
  have q0 := q.bds _ rfl
  refine ⟨?_, fun b hb => ?_, fun u hu => ?_⟩
  · rcases q.att with e | e
    · have e := Option.some.inj e
      rcases g4 with g | g | g
      · right; rw [← e, g]; exact h0
      · right; rw [← e, g]; exact h1
      · left; rw [← e]; exact g
    · exact .inr (sub _ e)
  · have := g3 b hb
    omega
  · rcases cov u hu with g | g | ⟨w, hw, g⟩
    · omega
    · omega
    · have := q.all w hw
      omega
def B1 : Int := 10 ^ 100
def B2 : Int := 10 ^ 200
theorem bdB2 : Bd B2 := Bd.of (10 ^ 200) (by decide +kernel)
theorem B12 : 3 * B1 ≤ B2 := by decide +kernel
theorem quo_bd {c m : Int} (hm : 0 < m) {b : Int} (h1 : -b ≤ c) (h2 : c ≤ b) (h0 : 0 ≤ b) : -b ≤ c / m ∧ c / m ≤ b := by
  have f := fl hm c
  constructor
  · have := le_fl hm (x := -b) (k := c / m) (N := c) (by
      have := mul_le h0 (show 1 ≤ m by omega)
      rw [Int.mul_neg, Int.mul_comm]
      omega) f.2
    exact this
  · rcases Int.lt_or_le b (c / m) with g | g
    · have a := mul_le (show 0 ≤ m by omega) (show b + 1 ≤ c / m by omega)
      have := mul_le (show 0 ≤ b + 1 by omega) (show 1 ≤ m by omega)
      rw [Int.mul_comm (b + 1) m] at this
      omega
    · exact g
theorem held0 (S : Store) : Held [] S := fun _ h => by cases h
theorem forL_nil0 (p : Pt) (b : Sv) (e : EnvP) (S : Store) : forL [] p b [] e S = .nx e S := by
  unfold forL
  rw [if_pos (held0 S)]
theorem forL_cons0 (p : Pt) (b : Sv) (d : D) (ds : List D) (e : EnvP) (S : Store) : forL [] p b (d :: ds) e S = (match p d e with
    | some e1 => (match b e1 S with
      | .nx e2 S2 => forL [] p b ds e2 S2
      | .ct e2 S2 => forL [] p b ds e2 S2
      | .bk e2 S2 => .nx e2 S2
      | r => r)
    | none => .bad) := by
  conv => lhs; unfold forL
  rw [if_pos (held0 S)]
  all_goals (cases p d e <;> first | rfl | (rename_i e1; dsimp only; cases b e1 S <;> rfl))
@[simp] theorem end_get (S : Store) (o : O) : (S ++ [o])[S.length]? = some o := by simp
@[simp] theorem end_set (S : Store) (o u : O) : (S ++ [o]).set S.length u = S ++ [u] := by simp
/-! ### plain, the same -/
mutual
def siz : D → Nat
  | .tup xs => sizs xs + 1
  | .non => 1
  | .bl _ => 1
  | .int _ => 1
  | .str _ => 1
  | .ref _ => 1
  | .gl _ => 1
  | .ty _ => 1
def sizs : List D → Nat
  | [] => 0
  | x :: xs => siz x + sizs xs
end
mutual
def pln : D → Bool
  | .tup xs => plns xs
  | .non => true
  | .bl _ => true
  | .int _ => true
  | .str _ => true
  | .ref _ => false
  | .gl _ => false
  | .ty _ => false
def plns : List D → Bool
  | [] => true
  | x :: xs => pln x && plns xs
end
theorem sizs_app : ∀ xs ys : List D, sizs (xs ++ ys) = sizs xs + sizs ys
  | [], ys => by simp [sizs]
  | x :: xs, ys => by rw [List.cons_append, sizs, sizs, sizs_app xs ys]; omega
theorem plns_app : ∀ xs ys : List D, plns (xs ++ ys) = (plns xs && plns ys)
  | [], ys => by simp [plns]
  | x :: xs, ys => by rw [List.cons_append, plns, plns, plns_app xs ys, Bool.and_assoc]
theorem siz_pos : ∀ d : D, 1 ≤ siz d := fun d => by cases d <;> simp [siz]
theorem len_sizs : ∀ xs : List D, xs.length ≤ sizs xs
  | [] => Nat.zero_le _
  | x :: xs => by rw [List.length_cons, sizs]; have := siz_pos x; have := len_sizs xs; omega
abbrev plB : Sv := (sSeq (sIf (fB (fBin dEq (fCB cLen (fCons (fVar 1) fNil)) (fK (.int 0)))) (sRet (fK (.bl true))) sNil)
  (sSeq (sSet 3 (fMethL mPop (fVar 1) fNil))
  (sIf (fTru (fCB cIsi (fCons (fVar 3) (fCons (fK (.ty "tuple")) fNil)))) (sExpr (fMethL mExtend (fVar 1) (fCons (fCB cList (fCons (fVar 3) fNil)) fNil))) (sIf (fAndB (fB (fBin dNotN (fVar 3) (fK .non))) (fAndB (fNotB (fTru (fCB cIsi (fCons (fVar 3) (fCons (fK (.ty "str")) fNil))))) (fNotB (fTru (fCB cIsi (fCons (fVar 3) (fCons (fK (.ty "int")) fNil))))))) (sRet (fK (.bl false))) sNil))))
theorem mid_get (S : Store) (o : O) (J : Store) : (S ++ o :: J)[S.length]? = some o := by simp
theorem mid_set (S : Store) (o u : O) (J : Store) : (S ++ o :: J).set S.length u = S ++ u :: J := by simp
theorem mPop_at (S J : Store) (ds : List D) (d : D) : mPop (.ref S.length) [] (S ++ .lst (ds ++ [d]) :: J) = .ok d (S ++ .lst ds :: J) := by
  simp [mPop]
theorem plB_nil (S J : Store) (x0 x2 x3 : Option D) : plB [x0, some (.ref S.length), x2, x3] (S ++ .lst [] :: J) = .rt (.bl true) (S ++ .lst [] :: J) := by
  simp [plB, cLen_ref (mid_get S (.lst []) J)]
theorem plB_tup (S J : Store) (x0 x2 x3 : Option D) (ds xs : List D) (h : ds.length + xs.length < LIM) : plB [x0, some (.ref S.length), x2, x3] (S ++ .lst (ds ++ [.tup xs]) :: J) = .nx [x0, some (.ref S.length), x2, some (.tup xs)] (S ++ .lst (ds ++ xs) :: (J ++ [.lst xs])) := by
  have e : (S ++ .lst ds :: (J ++ [.lst xs]))[S.length + (J.length + 1)]? = some (.lst xs) := by
    rw [List.getElem?_append_right (by omega)]
    simp
  have f : ¬ (ds.length : Int) + 1 = 0 := by omega
  simp [plB, cLen_ref (mid_get S (.lst (ds ++ [.tup xs])) J), f, mPop_at, isi_tup, cList, mExtend, e, h]
theorem plB_int (S J : Store) (x0 x2 x3 : Option D) (ds : List D) (i : Int) : plB [x0, some (.ref S.length), x2, x3] (S ++ .lst (ds ++ [.int i]) :: J) = .nx [x0, some (.ref S.length), x2, some (.int i)] (S ++ .lst ds :: J) := by
  have f : ¬ (ds.length : Int) + 1 = 0 := by omega
  have t1 : ∀ S, cIsi [.int i, .ty "tuple"] S = .ok (.bl false) S := fun _ => rfl
  have t2 : ∀ S, cIsi [.int i, .ty "str"] S = .ok (.bl false) S := fun _ => rfl
  simp [plB, cLen_ref (mid_get S (.lst (ds ++ [.int i])) J), f, mPop_at, t1, t2]
theorem plB_bl (S J : Store) (x0 x2 x3 : Option D) (ds : List D) (i : Bool) : plB [x0, some (.ref S.length), x2, x3] (S ++ .lst (ds ++ [.bl i]) :: J) = .nx [x0, some (.ref S.length), x2, some (.bl i)] (S ++ .lst ds :: J) := by
  have f : ¬ (ds.length : Int) + 1 = 0 := by omega
  have t1 : ∀ S, cIsi [.bl i, .ty "tuple"] S = .ok (.bl false) S := fun _ => rfl
  have t2 : ∀ S, cIsi [.bl i, .ty "str"] S = .ok (.bl false) S := fun _ => rfl
  have t3 : ∀ S, cIsi [.bl i, .ty "int"] S = .ok (.bl true) S := fun _ => rfl
  have t4 : ∀ S, dNotN (.bl i) .non S = .ok (.bl true) S := fun _ => rfl
  simp [plB, cLen_ref (mid_get S (.lst (ds ++ [.bl i])) J), f, mPop_at, t1, t2, t3, t4]
theorem plB_str (S J : Store) (x0 x2 x3 : Option D) (ds : List D) (i : Str) : plB [x0, some (.ref S.length), x2, x3] (S ++ .lst (ds ++ [.str i]) :: J) = .nx [x0, some (.ref S.length), x2, some (.str i)] (S ++ .lst ds :: J) := by
  have f : ¬ (ds.length : Int) + 1 = 0 := by omega
  have t1 : ∀ S, cIsi [.str i, .ty "tuple"] S = .ok (.bl false) S := fun _ => rfl
  have t2 : ∀ S, cIsi [.str i, .ty "str"] S = .ok (.bl true) S := fun _ => rfl
  have t4 : ∀ S, dNotN (.str i) .non S = .ok (.bl true) S := fun _ => rfl
  simp [plB, cLen_ref (mid_get S (.lst (ds ++ [.str i])) J), f, mPop_at, t1, t2, t4]
theorem plB_non (S J : Store) (x0 x2 x3 : Option D) (ds : List D) : plB [x0, some (.ref S.length), x2, x3] (S ++ .lst (ds ++ [.non]) :: J) = .nx [x0, some (.ref S.length), x2, some .non] (S ++ .lst ds :: J) := by
  have f : ¬ (ds.length : Int) + 1 = 0 := by omega
  have t1 : ∀ S, cIsi [.non, .ty "tuple"] S = .ok (.bl false) S := fun _ => rfl
  simp [plB, cLen_ref (mid_get S (.lst (ds ++ [.non])) J), f, mPop_at, t1]
theorem plain_loop (S : Store) (x0 : Option D) : ∀ (rs ds : List D) (J : Store) (x2 x3 : Option D), plns ds = true → sizs ds < rs.length → sizs ds < LIM →
    ∃ J', forL [] (ptName 2) plB rs [x0, some (.ref S.length), x2, x3] (S ++ .lst ds :: J) = .rt (.bl true) (S ++ J')
  | [], ds, J, x2, x3, _, h, _ => by simp at h
  | r :: rs, ds, J, x2, x3, hp, h, hl => by
    rw [forL_cons0]
    simp only [ev_ptName, List.set_cons_succ, List.set_cons_zero]
    rcases List.eq_nil_or_concat ds with e | ⟨ds', d, e⟩
    · subst e
      rw [plB_nil]
      exact ⟨_, rfl⟩
    · rw [List.concat_eq_append] at e
      subst e
      rw [plns_app, Bool.and_eq_true] at hp
      rw [sizs_app] at h hl
      have l1 := len_sizs ds'
      simp only [List.length_cons] at h
      cases d with
      | tup xs =>
        have l2 := len_sizs xs
        simp only [sizs, siz, plns, pln, Bool.and_true] at h hl hp
        rw [plB_tup _ _ _ _ _ _ _ (by omega)]
        exact plain_loop S x0 rs (ds' ++ xs) _ _ _ (by rw [plns_app, hp.1, hp.2]; rfl) (by rw [sizs_app]; omega) (by rw [sizs_app]; omega)
      | int i =>
        simp only [sizs, siz] at h hl
        rw [plB_int]
        exact plain_loop S x0 rs ds' _ _ _ hp.1 (by omega) (by omega)
      | bl i =>
        simp only [sizs, siz] at h hl
        rw [plB_bl]
        exact plain_loop S x0 rs ds' _ _ _ hp.1 (by omega) (by omega)
      | str i =>
        simp only [sizs, siz] at h hl
        rw [plB_str]
        exact plain_loop S x0 rs ds' _ _ _ hp.1 (by omega) (by omega)
      | non =>
        simp only [sizs, siz] at h hl
        rw [plB_non]
        exact plain_loop S x0 rs ds' _ _ _ hp.1 (by omega) (by omega)
      | ref n => simp [plns, pln] at hp
      | gl x => simp [plns, pln] at hp
      | ty n => simp [plns, pln] at hp
theorem rng_tail (fs : EnvP → Store → R (List D)) (env : EnvP) (S S1 : Store) (j : Int) (h : fs env S = .ok [.int j] S1) (h1 : -M62 ≤ j) (h2 : j < M62) (k : Nat) (hk : j.toNat = k) : fiRng fs env S = .ok (rngD 0 k 1, []) S1 := by
  unfold fiRng
  rw [h, R.bind_ok]
  dsimp only
  rw [if_pos ⟨h1, h2⟩, hk]
theorem sFor_ok (fi : Ei) (p : Pt) (b : Sv) (env : EnvP) (S S1 : Store) (a : List D × List (Nat × O)) (h : fi env S = .ok a S1) : sFor fi p b env S = forL a.2 p b a.1 env S1 := by
  unfold sFor
  rw [h]
  rfl
theorem plain_ok (S : Store) (d : D) (h : pln d = true) (hs : siz d < 999999) : ∃ E, F__law_plain [d] S = .ok (.bl true) (S ++ E) := by
  have lim : LIM = 10000000 := rfl
  have sz : sizs [d] = siz d := by simp [sizs]
  obtain ⟨k, hk⟩ : ∃ k : Nat, k = 1000000 := ⟨_, rfl⟩
  obtain ⟨J, hJ⟩ := plain_loop S (some d) (rngD 0 k 1) [d] [] none none (by simp [plns, h]) (by rw [rngD_len, sz]; omega) (by rw [sz, lim]; omega)
  refine ⟨J, ?_⟩
  simp only [plB] at hJ
  have hr := sFor_ok (fiRng (fCons (fBin dPow (fK (.int 10)) (fK (.int 6))) fNil)) (ptName 2) plB [some d, some (.ref S.length), none, none] (S ++ [.lst [d]]) (S ++ [.lst [d]]) (rngD 0 k 1, []) (rng_tail _ _ _ _ 1000000 (by simp) (by unfold M62; omega) (by unfold M62; omega) k (by omega))
  rw [hJ] at hr
  simp only [plB] at hr
  simp only [F__law_plain, b__law_plain]
  simp [List.replicate, hr]
def Sml (i : Int) : Prop := i.natAbs < 2 ^ 300
theorem Sml.log {i : Int} (h : Sml i) : i.natAbs.log2 < 300 := by
  by_cases h0 : i.natAbs = 0
  · rw [h0]; decide
  · exact (Nat.log2_lt h0 (k := 300)).mpr h
theorem int_text {i : Int} (h : Sml i) : (PyData.shown (.int i)).length ≤ 301 := by
  have e := int_text_length_le (a := i) (k := 300) (by decide) h.log
  show (Str.ofString (toString i)).length ≤ 301
  rw [ofString_length]
  exact e
theorem int_wt {i : Int} (h : Sml i) : (PyData.int i).weight ≤ 300 := by
  have := h.log
  simp only [PyData.weight]
  split <;> omega
/-! ### lowest -/
abbrev dvB : Sv := (sSeq (sIf (fB (fBin dEq (fVar 1) (fK (.int 0)))) (sRet (fCB cAbs (fCons (fVar 0) fNil))) sNil)
  (sPar 0 1 (fCons (fVar 1) (fCons (fBin dMod (fCB cInt (fCons (fVar 0) fNil)) (fCB cAbs (fCons (fVar 1) fNil))) fNil))))
theorem dv_end (S : Store) (a : Int) (x2 : Option D) : dvB [some (.int a), some (.int 0), x2] S = .rt (.int (Int.gcd a 0 : Nat)) S := by
  have e : (if a < 0 then -a else a) = ((Int.gcd a 0 : Nat) : Int) := by rw [Int.gcd_zero]; split <;> omega
  simp [dvB]
  omega
theorem dv_step (S : Store) (a b : Int) (x2 : Option D) (h : 0 < b) : dvB [some (.int a), some (.int b), x2] S = .nx [some (.int b), some (.int (a % b)), x2] S := by
  have h1 : ¬ b = 0 := by omega
  have h2 : ¬ b < 0 := by omega
  simp [dvB, h1, h2, dMod_pos h]
theorem dv_loop (S : Store) : ∀ (k : Nat) (rs : List D) (a b : Int) (x2 : Option D), 0 ≤ b → b < 2 ^ k → 2 * k + 1 ≤ rs.length → forL [] (ptName 2) dvB rs [some (.int a), some (.int b), x2] S = .rt (.int (Int.gcd a b : Nat)) S := by
  intro k
  induction k with
  | zero =>
    intro rs a b x2 h0 h1 hl
    have e : b = 0 := by
      have : (2 : Int) ^ 0 = 1 := rfl
      omega
    subst e
    match rs, hl with
    | r :: rs, _ =>
      rw [forL_cons0]
      simp only [ev_ptName, List.set_cons_succ, List.set_cons_zero]
      rw [dv_end]
  | succ k ih =>
    intro rs a b x2 h0 h1 hl
    match rs, hl with
    | r :: r' :: rs, hl =>
      rw [forL_cons0]
      simp only [ev_ptName, List.set_cons_succ, List.set_cons_zero]
      by_cases e : b = 0
      · subst e
        rw [dv_end]
      · have bp : 0 < b := by omega
        rw [dv_step _ _ _ _ bp]
        dsimp only
        rw [gcd_step]
        have m0 := Int.emod_nonneg a e
        have m1 := Int.emod_lt_of_pos a bp
        generalize a % b = c at *
        rw [forL_cons0]
        simp only [ev_ptName, List.set_cons_succ, List.set_cons_zero]
        by_cases e2 : c = 0
        · subst e2
          rw [dv_end]
        · have cp : 0 < c := by omega
          rw [dv_step _ _ _ _ cp]
          dsimp only
          rw [gcd_step]
          have n0 := Int.emod_nonneg b e2
          have n1 := Int.emod_lt_of_pos b cp
          have f := Int.emod_add_mul_ediv b c
          have q1 : 1 ≤ b / c := by
            have := (M59.fl cp b)
            exact le_fl cp (x := 1) (k := b / c) (N := b) (by omega) this.2
          have := mul_le (show 0 ≤ c by omega) q1
          have pw : (2 : Int) ^ (k + 1) = 2 * 2 ^ k := by rw [Int.pow_succ]; omega
          refine ih rs c (b % c) _ n0 (by omega) (by simp only [List.length_cons] at hl; omega)
theorem divisor_ok (S : Store) (a b : Int) (h0 : 0 ≤ b) (h1 : b < 2 ^ 1000) : F__law_divisor [.int a, .int b] S = .ok (.int (Int.gcd a b : Nat)) S := by
  obtain ⟨k, hk⟩ : ∃ k : Nat, k = 10000 := ⟨_, rfl⟩
  have hJ := dv_loop S 1000 (rngD 0 k 1) a b none h0 h1 (by rw [rngD_len]; omega)
  have hr := sFor_ok (fiRng (fCons (fK (.int 10000)) fNil)) (ptName 2) dvB [some (.int a), some (.int b), none] S S (rngD 0 k 1, []) (rng_tail _ _ _ _ 10000 (by simp) (by unfold M62; omega) (by unfold M62; omega) k (by omega))
  rw [hJ] at hr
  simp only [dvB] at hr
  simp only [F__law_divisor, b__law_divisor]
  simp [List.replicate, hr]
theorem lowest_ok (S : Store) (a b : Int) (h0 : 0 < b) (h1 : b < 2 ^ 1000) : ∃ p q, F__law_lowest [.int a, .int b] S = .ok (.tup [.int p, .int q]) S ∧ Int.gcd p q = 1 ∧ 0 < q ∧ q ≤ b ∧ (∃ g, 0 < g ∧ a = g * p ∧ b = g * q) := by
  have gp : 0 < Int.gcd a b := Int.gcd_pos_of_ne_zero_right a (by omega)
  have d1 := Int.gcd_dvd_left a b
  have d2 := Int.gcd_dvd_right a b
  have gle : (Int.gcd a b : Int) ≤ b := Int.gcd_le_right a h0
  obtain ⟨p, hp⟩ := d1
  obtain ⟨q, hq⟩ := d2
  have co := Int.gcd_mul_left (Int.gcd a b : Int) p q
  rw [← hp, ← hq] at co
  generalize hg : Int.gcd a b = g at *
  have e1 : a / (g : Int) = p := by rw [hp]; exact Int.mul_ediv_cancel_left _ (by omega)
  have e2 : b / (g : Int) = q := by
    have : (g : Int) * q / g = q := Int.mul_ediv_cancel_left _ (by omega)
    rw [← hq] at this
    exact this
  have co2 : Int.gcd p q = 1 := by
    have : g * 1 = g * Int.gcd p q := by rw [Nat.mul_one]; simpa using co
    exact (Nat.eq_of_mul_eq_mul_left gp this).symm
  have qp : 0 < q := by
    rcases Int.lt_or_le 0 q with h | h
    · exact h
    · have := Int.mul_nonpos_of_nonneg_of_nonpos (show (0 : Int) ≤ g by omega) h
      omega
  have qb : q ≤ b := by
    have := mul_le (show 0 ≤ q by omega) (show (1 : Int) ≤ g by omega)
    rw [Int.mul_comm q g] at this
    omega
  refine ⟨p, q, ?_, co2, qp, qb, g, by omega, hp, hq⟩
  have bg : Bd (g : Int) := by
    unfold Bd
    have : (2 : Int) ^ 1000 = ((2 ^ 1000 : Nat) : Int) := by norm_cast
    have : (2 : Nat) ^ 1000 < 2 ^ 3000 := by decide +kernel
    omega
  have nb : ¬ b < 0 := by omega
  simp [F__law_lowest, b__law_lowest, divisor_ok S a b (by omega) h1, hg, nb, dDiv_bd (show (0 : Int) < g by omega) bg, e1, e2]
theorem mk_len (o : O) (ns : List Int) (cur j : Int) (rest : Store) : (mk o ns cur j rest).length = rest.length + 3 := rfl
theorem mk_app (o : O) (ns : List Int) (cur j : Int) (rest E : Store) : mk o ns cur j rest ++ E = mk o ns cur j (rest ++ E) := rfl
theorem mk_get (o : O) (ns : List Int) (cur j : Int) (rest : Store) (n : Nat) : (mk o ns cur j rest)[n + 3]? = rest[n]? := rfl
theorem pick_ok (o : O) (ns : List Int) (cur j : Int) (rest : Store) (n : Nat) (vs : List Int) (h0 : 0 ≤ cur) (hj : 0 ≤ j) (hn : rest[n]? = some (.lst (vs.map D.int))) (hv : 0 < vs.length) (hl : vs.length < 1000) :
    ∃ v cur' j', v ∈ vs ∧ 0 ≤ cur' ∧ 0 ≤ j' ∧ F__law_pick [.ref 2, .ref (n + 3)] (mk o ns cur j rest) = .ok (.int v) (mk o ns cur' j' rest) := by
  obtain ⟨d, cur', j', d0, d1, c0, j0, h⟩ := next_ok o ns cur j (vs.length : Int) rest h0 hj (by omega) (Bd.of 1000 (by omega))
  have hd : d.toNat < vs.length := by omega
  refine ⟨vs[d.toNat], cur', j', List.getElem_mem hd, c0, j0, ?_⟩
  have g : ∀ c j, (mk o ns c j rest)[n + 3]? = some (.lst (vs.map D.int)) := fun c j => by rw [mk_get]; exact hn
  have a : atI (vs.map D.int) d = some (.int vs[d.toNat]) := by
    rw [atI_of _ d0, List.getElem?_map, List.getElem?_eq_getElem hd]
    rfl
  simp [F__law_pick, b__law_pick, cLen_ref (g _ _), h, dIx_ref (g _ _), a]
theorem world_ok (o : O) (ns : List Int) (cur j size : Int) (rest : Store) (h0 : 0 ≤ cur) (hj : 0 ≤ j) (s0 : 0 < size) (s1 : size ≤ 1000) :
    ∃ p q c cur' j', 0 ≤ cur' ∧ 0 ≤ j' ∧ F__law_world [.ref 2, .int size, .int 2] (mk o ns cur j rest) = .ok (.tup [.int p, .int q, .int c]) (mk o ns cur' j' rest) ∧ Int.gcd p q = 1 ∧ 0 < q ∧ q ≤ 1000 ∧ -10000 ≤ p ∧ p ≤ 10000 ∧ -10000 ≤ c ∧ c ≤ 10000 := by
  obtain ⟨d1, c1, j1, a1, a2, a3, a4, e1⟩ := next_ok o ns cur j size rest h0 hj s0 (Bd.of 1000 (by omega))
  generalize hq : 1 + d1 = q0
  obtain ⟨d2, c2, j2, b1, b2, b3, b4, e2⟩ := next_ok o ns c1 j1 (2 * 2 * q0 + 1) rest a3 a4 (by omega) (Bd.of 10000 (by omega))
  obtain ⟨p, q, hlow, co, q1, q2, g, g1, g2, g3⟩ := lowest_ok (mk o ns c2 j2 rest) (d2 - 2 * q0) q0 (by omega) (Int.lt_of_le_of_lt (show q0 ≤ 1001 by omega) (by decide +kernel))
  obtain ⟨d3, c3, j3, f1, f2, f3, f4, e3⟩ := next_ok o ns c2 j2 (8 * q + 1) rest b3 b4 (by omega) (Bd.of 10000 (by omega))
  have pb : p.natAbs ≤ (d2 - 2 * q0).natAbs := by
    rw [g2, Int.natAbs_mul]
    exact Nat.le_mul_of_pos_left _ (by omega)
  refine ⟨p, q, d3 - 4 * q, c3, j3, f3, f4, ?_, co, q1, by omega, by omega, by omega, by omega, by omega⟩
  simp only [Int.reduceMul] at e2
  simp [F__law_world, b__law_world, List.replicate, e1, hq, dMul_l, e2, hlow, e3]
theorem keep_get {S : Store} {n : Nat} {o : O} (E : Store) (h : S[n]? = some o) : (S ++ E)[n]? = some o := by
  rw [List.getElem?_append_left (List.getElem?_eq_some_iff.mp h).1]
  exact h
theorem rng_two (fs : EnvP → Store → R (List D)) (env : EnvP) (S S1 : Store) (i j : Int) (h : fs env S = .ok [.int i, .int j] S1) (h1 : -M62 ≤ i) (h2 : i < M62) (h3 : -M62 ≤ j) (h4 : j < M62) (k : Nat) (hk : (j - i).toNat = k) : fiRng fs env S = .ok (rngD i k 1, []) S1 := by
  unfold fiRng
  rw [h, R.bind_ok]
  dsimp only
  rw [if_pos ⟨h1, h2, h3, h4⟩, hk]
theorem bd_mn {i : Int} (h1 : -MN ≤ i) (h2 : i ≤ MN) : Bd i := bd_of (Bd.of (10 ^ 60) (by decide +kernel) : Bd MN) h1 h2
/-! ### sorting -/
def pr (r : Int × Int) : D := .tup [.int r.1, .int r.2]
theorem okds_map {α : Type} (f : α → D) : ∀ l : List α, (∀ a ∈ l, (f a).okd = true) → D.okds (l.map f) = true
  | [], _ => by simp [D.okds]
  | a :: l, h => by
    rw [List.map_cons, D.okds, h a List.mem_cons_self, okds_map f l fun b hb => h b (List.mem_cons_of_mem _ hb)]
    rfl
theorem sok_pr (T : List (Int × Int)) (h : T.length < LIM) : SOk (T.map pr) := by
  refine ⟨okds_map pr T fun a _ => ?_, fun d hd d' hd' => ?_, .inl fun d hd => ?_, fun d hd => ?_, by rw [List.length_map]; exact h⟩
  · simp [pr, D.okd, D.okds]
  · rw [List.map_map] at hd hd'
    obtain ⟨a, _, rfl⟩ := List.mem_map.mp hd
    obtain ⟨b, _, rfl⟩ := List.mem_map.mp hd'
    simp [pr, D.dat, D.dats, PySem.W.alike, PySem.W.alikeAll]
  · rw [List.map_map] at hd
    obtain ⟨a, _, rfl⟩ := List.mem_map.mp hd
    exact ⟨.int a.1, [.int a.2], by simp [pr, D.dat, D.dats]⟩
  · obtain ⟨a, _, rfl⟩ := List.mem_map.mp hd
    simp [pr, D.dat, D.dats, PyData.depth, PyData.depthAll]
theorem sok_int (xs : List Int) (h : xs.length < LIM) : SOk (xs.map D.int) := by
  refine ⟨okds_map D.int xs fun a _ => ?_, fun d hd d' hd' => ?_, .inr fun d hd => ?_, fun d hd => ?_, by rw [List.length_map]; exact h⟩
  · simp [D.okd]
  · rw [List.map_map] at hd hd'
    obtain ⟨a, _, rfl⟩ := List.mem_map.mp hd
    obtain ⟨b, _, rfl⟩ := List.mem_map.mp hd'
    simp [D.dat, PySem.W.alike]
  · rw [List.map_map] at hd
    obtain ⟨a, _, rfl⟩ := List.mem_map.mp hd
    exact ⟨by simp [D.dat], by simp [D.dat]⟩
  · obtain ⟨a, _, rfl⟩ := List.mem_map.mp hd
    simp [D.dat, PyData.depth]
theorem sort_pr (T : List (Int × Int)) : sortDs (T.map pr) = (T.mergeSort lexB).map pr := by
  unfold sortDs
  refine (List.map_mergeSort fun a _ b _ => ?_).symm
  unfold lexB PySem.W.dataLe PySem.W.sortLe
  simp [pr, D.dat, D.dats, PySem.W.keyToks, PySem.W.keyToksAll, PyProof.Rows.lexLt, PyProof.Rows.itemLt]
  rw [Bool.eq_iff_iff]; simp; omega
theorem sort_int (xs : List Int) : sortDs (xs.map D.int) = (xs.mergeSort leB).map D.int := by
  unfold sortDs
  refine (List.map_mergeSort fun a _ b _ => ?_).symm
  unfold leB PySem.W.dataLe PySem.W.sortLe
  simp [D.dat, PySem.W.keyToks, PyProof.Rows.lexLt, PyProof.Rows.itemLt]
  rw [Bool.eq_iff_iff]; simp
theorem cSorted_lst (S : Store) (n : Nat) (xs : List Int) (h : S[n]? = some (.lst (xs.map D.int))) (hl : xs.length < LIM) : cSorted [.ref n] S = .ok (.ref S.length) (S ++ [.lst ((xs.mergeSort leB).map D.int)]) := by
  simp only [cSorted, srtSrc, h]
  rw [if_pos (sok_int xs hl), sort_int]
end P58

set_option maxRecDepth 100000
set_option maxHeartbeats 2000000
set_option autoImplicit false
namespace P58
open PySem L2 EV M59 M58
theorem gr_mono (S : Store) (n m a b c d more : Int) (best : Option Int) (t e : Option D) (m0 : 0 < m) (bm : Bd m) (bb : Bd b) (bcm : Bd (c / m)) (bdm : Bd (d / m)) (bc : Bd (c % m)) (bn : Bd (n - 1)) (ba : Bd (a + b * (c / m))) (bt : Bd ((c % m * (n - 1) + d % m) / m)) (a1 c1 more1 d1 top : Int)
    (ha1 : a + b * (c / m) = a1) (hc1 : c % m = c1) (hm1 : more + b * (d / m) = more1) (hd1 : d % m = d1) (ht1 : (c1 * (n - 1) + d1) / m = top) (h : top ≠ 0) (g : (0 ≤ a1 ∧ 0 ≤ b) ∨ (a1 ≤ 0 ∧ b ≤ 0)) :
    grB [some (.int n), some (.int m), some (.int a), some (.int b), some (.int c), some (.int d), some (.int more), some (bD best), t, e] S = .rt (.int (bst best more1 (more1 + a1 * (n - 1) + b * top))) S := by
  rw [hc1, hd1, ht1] at bt
  rw [hc1] at bc
  rw [ha1] at ba
  have h1 := eq_false h
  by_cases g1 : 0 ≤ a1
  · by_cases g2 : 0 ≤ b
    · have h2 := eq_true g1
      have h3 := eq_true g2
      clear h g g1 g2
      cases best <;> simp [grB, bD, dDiv_bd m0 bm, dMod_pos m0, dMul_bd bb bcm, dMul_bd bb bdm, ha1, hc1, hm1, hd1, dMul_bd bc bn, dMul_bd ba bn, ht1, dMul_bd bb bt, bst, -cMax_int, -cMax_tup2, cMax_mx, cMax_mx2, h1, h2, h3]
    · have h2 := eq_true g1
      have h3 := eq_false g2
      have h4 : (a1 ≤ 0) = True := eq_true (by omega)
      have h5 : (b ≤ 0) = True := eq_true (by omega)
      clear h g g1 g2
      cases best <;> simp [grB, bD, dDiv_bd m0 bm, dMod_pos m0, dMul_bd bb bcm, dMul_bd bb bdm, ha1, hc1, hm1, hd1, dMul_bd bc bn, dMul_bd ba bn, ht1, dMul_bd bb bt, bst, -cMax_int, -cMax_tup2, cMax_mx, cMax_mx2, h1, h2, h3, h4, h5]
  · have h2 := eq_false g1
    have h4 : (a1 ≤ 0) = True := eq_true (by omega)
    have h5 : (b ≤ 0) = True := eq_true (by omega)
    clear h g g1
    cases best <;> simp [grB, bD, dDiv_bd m0 bm, dMod_pos m0, dMul_bd bb bcm, dMul_bd bb bdm, ha1, hc1, hm1, hd1, dMul_bd bc bn, dMul_bd ba bn, ht1, dMul_bd bb bt, bst, -cMax_int, -cMax_tup2, cMax_mx, cMax_mx2, h1, h2, h4, h5]
theorem abs_mul {a b A B : Int} (h1 : -A ≤ a) (h2 : a ≤ A) (h3 : -B ≤ b) (h4 : b ≤ B) : -(A * B) ≤ a * b ∧ a * b ≤ A * B := by
  have : (a * b).natAbs ≤ A.natAbs * B.natAbs := by
    rw [Int.natAbs_mul]
    exact Nat.mul_le_mul (by omega) (by omega)
  have e : ((A.natAbs * B.natAbs : Nat) : Int) = A * B := by
    rw [Int.natCast_mul, Int.natAbs_of_nonneg (by omega), Int.natAbs_of_nonneg (by omega)]
  omega
theorem gr_loopG (S : Store) : ∀ (k : Nat) (n m a b c d more A B : Int) (best : Option Int) (t e : Option D), m.toNat ≤ k → 0 < m → 0 < n → n ≤ B1 → m ≤ B1 → -B1 ≤ c → c ≤ B1 → -B2 ≤ d → d ≤ B2 →
    -A ≤ a + b * (c / m) → a + b * (c / m) ≤ A → -B ≤ b → b ≤ B → A * m + B * (c % m) ≤ B2 → B ≤ B2 → 0 ≤ A → 0 ≤ B →
    ∃ v, sWhile grT grB [some (.int n), some (.int m), some (.int a), some (.int b), some (.int c), some (.int d), some (.int more), some (bD best), t, e] S = .rt (.int v) S ∧ Mx v best (valsG n m a b c d more) := by
  intro k
  induction k with
  | zero => intro n m a b c d more A B best t e h0 h1; omega
  | succ k ih =>
    intro n m a b c d more A B best t e h0 m0 n0 hn hm c1 c2 d1 d2 A1 A2 Bb1 Bb2 pot BB A0 B0
    have b12 := B12
    have b0 : 0 ≤ B1 := by decide +kernel
    have bdd : ∀ i : Int, -B2 ≤ i → i ≤ B2 → Bd i := fun i a b => bd_of bdB2 a b
    have em0 := Int.emod_nonneg c (show m ≠ 0 by omega)
    have em1 := Int.emod_lt_of_pos c m0
    have ed0 := Int.emod_nonneg d (show m ≠ 0 by omega)
    have ed1 := Int.emod_lt_of_pos d m0
    have st := step1 n0 m0 em0 em1 ed0 ed1
    have tp := st.top0
    have qc := quo_bd (c := c) m0 c1 c2 b0
    have qd := quo_bd (c := d) m0 d1 d2 (by omega)
    have Bc0 := Int.mul_nonneg B0 em0
    have Am := mul_le A0 (show 1 ≤ m by omega)
    have AB : A ≤ B2 := by omega
    have norm := fun u => valsG_norm (n := n) (m := m) (a := a) (b := b) (c := c) (d := d) (more := more) (u := u) m0
    generalize ha : a + b * (c / m) = a1 at *
    have fin : ∀ v, Mx v best (valsG n m a1 b (c % m) (d % m) (more + b * (d / m))) → Mx v best (valsG n m a b c d more) := fun v h => ⟨h.att.imp id fun x => (norm _).mpr x, h.bds, fun u hu => h.all u ((norm u).mp hu)⟩
    have bcm := bdd (c / m) (by omega) (by omega)
    have bdm := bdd (d / m) (by omega) (by omega)
    have bc := bdd (c % m) (by omega) (by omega)
    have bn := bdd (n - 1) (by omega) (by omega)
    have bm := bdd m (by omega) (by omega)
    have bb := bdd b (by omega) (by omega)
    have ba : Bd (a + b * (c / m)) := by rw [ha]; exact bdd _ (by omega) (by omega)
    have bt := bdd _ (show -B2 ≤ (c % m * (n - 1) + d % m) / m by omega) (by omega)
    have end0 := endG0 (a := a1) (b := b) (more := more + b * (d / m)) st
    have end1 := endG1 (a := a1) (b := b) (more := more + b * (d / m)) st
    rw [sWhile_eq]
    by_cases h : (c % m * (n - 1) + d % m) / m = 0
    · have g := gr_ret S n m a b c d more best t e m0 bm bb bcm bdm bc bn ba bt _ _ _ _ _ ha rfl rfl rfl rfl h
      refine ⟨_, ?_, fin _ (Mx.of_top (n := n) (m := m) (s := 1) (c := c) (d := d) (more := more) (m1 := more + b * (d / m)) _ (fun _ => False) end0 end1 ⟨.inl rfl, fun b hb => by cases hb; exact Int.le_refl _, fun u hu => hu.elim⟩ (fun u hu => hu.elim) fun u hu => (flatG st h hu).imp id .inl)⟩
      simp only [grT, ev_fTru, ev_fK, R.bind_ok, ev_dTru, R.andT_ok, if_true]
      rw [g]
    · by_cases h' : (0 ≤ a1 ∧ 0 ≤ b) ∨ (a1 ≤ 0 ∧ b ≤ 0)
      · have g := gr_mono S n m a b c d more best t e m0 bm bb bcm bdm bc bn ba bt _ _ _ _ _ ha rfl rfl rfl rfl h h'
        refine ⟨_, ?_, fin _ (Mx.of_top (n := n) (m := m) (s := 1) (c := c) (d := d) (more := more) (m1 := more + b * (d / m)) _ (fun _ => False) end0 end1 ⟨.inl rfl, fun b hb => by cases hb; exact Int.le_refl _, fun u hu => hu.elim⟩ (fun u hu => hu.elim) fun u hu => ?_)⟩
        · simp only [grT, ev_fTru, ev_fK, R.bind_ok, ev_dTru, R.andT_ok, if_true]
          rw [g]
        · rcases h' with h' | h'
          · exact .inr (.inl (riseG st h'.1 h'.2 hu))
          · exact .inl (fallG st h'.1 h'.2 hu)
      · have cp := st.cpos h
        -- the bounds of the next turn
        have nq := quo_bd (c := m) cp (show -B1 ≤ m by omega) hm b0
        have nq0 : 0 ≤ m / (c % m) := Int.ediv_nonneg (by omega) (by omega)
        have am := abs_mul A1 A2 (show -(m / (c % m)) ≤ m / (c % m) by omega) (Int.le_refl _)
        have AQ := Int.mul_nonneg A0 nq0
        have pot' : (B + A * (m / (c % m))) * (c % m) + A * (m % (c % m)) ≤ B2 := by
          have e := Int.emod_add_mul_ediv m (c % m)
          rw [Int.add_mul, Int.mul_assoc]
          have : A * m = A * (m % (c % m)) + A * (m / (c % m) * (c % m)) := by
            rw [← Int.mul_add, Int.mul_comm (m / (c % m)), e]
          omega
        rcases Int.lt_trichotomy a1 0 with s | s | s
        · have g := gr_down S n m a b c d more best t e m0 bm bb bcm bdm bc bn ba bt _ _ _ _ _ ha rfl rfl rfl rfl h s (by omega)
          have u := downG (b := b) (more := more + b * (d / m)) st s h
          obtain ⟨v, hv, hx⟩ := ih ((c % m * (n - 1) + d % m) / m) (c % m) b a1 m (m - (d % m - c % m) - 1) (more + b * (d / m) + b) (B + A * (m / (c % m))) A (some (bst best (more + b * (d / m)) (more + b * (d / m) + a1 * (n - 1) + b * ((c % m * (n - 1) + d % m) / m)))) (some (.int ((c % m * (n - 1) + d % m) / m))) (some (.tup [.int (more + b * (d / m)), .int (more + b * (d / m) + a1 * (n - 1) + b * ((c % m * (n - 1) + d % m) / m))])) (by omega) cp (by omega) (by omega) (by omega) (by omega) (by omega) (by omega) (by omega) (by omega) (by omega) A1 A2 pot' AB (by omega) A0
          refine ⟨v, ?_, fin v (Mx.of_top (n := n) (m := m) (s := 1) (c := c) (d := d) (more := more) _ _ end0 end1 hx u.1 fun w hw => (u.2 w hw).imp id .inr)⟩
          simp only [grT, ev_fTru, ev_fK, R.bind_ok, ev_dTru, R.andT_ok, if_true]
          rw [g, ← hv]
          rfl
        · omega
        · have g := gr_up S n m a b c d more best t e m0 bm bb bcm bdm bc bn ba bt _ _ _ _ _ ha rfl rfl rfl rfl h s (by omega)
          have u := upG (b := b) (more := more + b * (d / m)) st s h
          obtain ⟨v, hv, hx⟩ := ih ((c % m * (n - 1) + d % m) / m) (c % m) b a1 m (m - d % m - 1) (more + b * (d / m)) (B + A * (m / (c % m))) A (some (bst best (more + b * (d / m)) (more + b * (d / m) + a1 * (n - 1) + b * ((c % m * (n - 1) + d % m) / m)))) (some (.int ((c % m * (n - 1) + d % m) / m))) (some (.tup [.int (more + b * (d / m)), .int (more + b * (d / m) + a1 * (n - 1) + b * ((c % m * (n - 1) + d % m) / m))])) (by omega) cp (by omega) (by omega) (by omega) (by omega) (by omega) (by omega) (by omega) (by omega) (by omega) A1 A2 pot' AB (by omega) A0
          refine ⟨v, ?_, fin v (Mx.of_top (n := n) (m := m) (s := 1) (c := c) (d := d) (more := more) _ _ end0 end1 hx u.1 fun w hw => .inr (u.2 w hw))⟩
          simp only [grT, ev_fTru, ev_fK, R.bind_ok, ev_dTru, R.andT_ok, if_true]
          rw [g, ← hv]
          rfl
end P58

set_option maxRecDepth 100000
set_option maxHeartbeats 2000000
set_option autoImplicit false
namespace P58
open PySem L2 EV M59 M58
theorem bez : ∀ (n : Nat) (q p : Int), q.toNat ≤ n → 0 < q → Int.gcd p q = 1 → ∃ u k, p * u = 1 + q * k := by
  intro n
  induction n with
  | zero => intro q p h h0; omega
  | succ n ih =>
    intro q p h h0 co
    by_cases h1 : q = 1
    · exact ⟨0, -1, by subst h1; omega⟩
    · have m0 := Int.emod_nonneg p (show q ≠ 0 by omega)
      have m1 := Int.emod_lt_of_pos p h0
      have e := (Int.emod_add_mul_ediv p q).symm
      rw [gcd_step] at co
      generalize p % q = r at *
      generalize p / q = m at *
      by_cases r0 : r = 0
      · subst r0
        rw [Int.gcd_zero] at co
        omega
      · obtain ⟨u, k, hu⟩ := ih r q (by omega) (by omega) co
        refine ⟨-k, -u - m * k, ?_⟩
        rw [e, Int.add_mul, Int.mul_neg, Int.mul_neg, Int.mul_sub, Int.mul_neg, Int.mul_assoc q m k]
        omega
/-- a world of the program -/
structure World_ (p q c : Int) : Prop where
  p1 : -MN ≤ p
  p2 : p ≤ MN
  q1 : 1 ≤ q
  q2 : q ≤ MN
  co : Int.gcd p q = 1
  c1 : -MN ≤ c
  c2 : c ≤ MN
theorem World_.wd {p q c : Int} (w : World_ p q c) : Wd p q := ⟨by have := w.q1; omega, w.co, bez q.toNat q p (Nat.le_refl _) (by have := w.q1; omega) w.co⟩
def wt (p q c : Int) : D := .tup [.int p, .int q, .int c]
theorem mnp : (1000 : Int) ≤ MN := by decide +kernel
theorem greatestG_ok (S : Store) (n m a b c d : Int) (m0 : 0 < m) (n0 : 0 < n) (hn : n ≤ B1) (hm : m ≤ MN) (a1 : -MN ≤ a) (a2 : a ≤ MN) (b1 : -MN ≤ b) (b2 : b ≤ MN) (c1 : -MN ≤ c) (c2 : c ≤ MN) (d1 : -B2 ≤ d) (d2 : d ≤ B2) :
    ∃ v, F_greatest_of [.int n, .int m, .int a, .int b, .int c, .int d] S = .ok (.int v) S ∧ Mx v none (valsG n m a b c d 0) := by
  have mm : MN ≤ B1 := by decide +kernel
  have mp := mnp
  have qc := quo_bd (c := c) m0 c1 c2 (by omega)
  have ab := abs_mul b1 b2 qc.1 qc.2
  have em0 := Int.emod_nonneg c (show m ≠ 0 by omega)
  have em1 := Int.emod_lt_of_pos c m0
  have big : (MN + MN * MN) * MN + MN * MN ≤ B2 := by decide +kernel
  have big0 : 0 ≤ MN * MN := by decide +kernel
  have x1 := mul_le (show 0 ≤ MN + MN * MN by omega) hm
  have x2 := mul_le (show 0 ≤ MN by omega) (show c % m ≤ MN by omega)
  obtain ⟨v, hv, hx⟩ := gr_loopG S m.toNat n m a b c d 0 (MN + MN * MN) MN none none none (Nat.le_refl _) m0 n0 hn (by omega) (by omega) (by omega) d1 d2 (by omega) (by omega) b1 b2 (by omega) (by have := B12; omega) (by omega) (by omega)
  refine ⟨v, ?_, hx⟩
  simp only [grT, grB, bD] at hv
  simp [F_greatest_of, b_greatest_of, List.replicate, hv]
def EB : Int := 10 ^ 80
open Classical in
theorem agree_on_ok (S : Store) (p q c p' q' c' first last : Int) (w : World_ p q c) (w' : World_ p' q' c') (f1 : -EB ≤ first) (f2 : first ≤ last) (f3 : last ≤ EB) :
    F_agree_on [wt p q c, wt p' q' c', .int first, .int last] S = .ok (.bl (decide (∀ e, first ≤ e → e ≤ last → day p q c e = day p' q' c' e))) S := by
  have w1 := w.p1; have w2 := w.p2; have w3 := w.q1; have w4 := w.q2; have w5 := w.c1; have w6 := w.c2
  have v1 := w'.p1; have v2 := w'.p2; have v3 := w'.q1; have v4 := w'.q2; have v5 := w'.c1; have v6 := w'.c2
  have mp := mnp
  have eb : MN * EB + MN ≤ B2 := by decide +kernel
  have eb0 : 0 ≤ EB := by decide +kernel
  have eb1 : 2 * EB + 1 ≤ B1 := by decide +kernel
  have b12 := B12
  have pf := abs_mul w1 w2 f1 (show first ≤ EB by omega)
  have pf' := abs_mul v1 v2 f1 (show first ≤ EB by omega)
  have bp : Bd p := bd_mn w1 w2
  have bp' : Bd p' := bd_mn v1 v2
  have bf : Bd first := bd_of bdB2 (by omega) (by omega)
  obtain ⟨v, hv, hx⟩ := greatestG_ok S (last - first + 1) q (-p') q' p (p * first + c) (by omega) (by omega) (by omega) w4 (by omega) (by omega) (by omega) (by omega) w1 w2 (by omega) (by omega)
  obtain ⟨u, hu, hy⟩ := greatestG_ok S (last - first + 1) q p' (-q') p (p * first + c) (by omega) (by omega) (by omega) w4 (by omega) (by omega) (by omega) (by omega) w1 w2 (by omega) (by omega)
  have dx : ∀ x, (p * x + (p * first + c)) / q = day p q c (first + x) := fun x => by
    unfold day
    rw [Int.mul_add]
    congr 1
    omega
  have i1 : (p' * first + c' < v) ↔ ∃ e, first ≤ e ∧ e ≤ last ∧ day p' q' c' e < day p q c e := by
    constructor
    · intro h
      rcases hx.att with e | ⟨x, x0, x1, e⟩
      · cases e
      · refine ⟨first + x, by omega, by omega, ?_⟩
        rw [dx] at e
        generalize day p q c (first + x) = z at *
        rcases Int.lt_or_le (day p' q' c' (first + x)) z with g | g
        · exact g
        · have f := (day_of (p := p') (c := c') (e := first + x) (show 0 < q' by omega)).mp rfl
          have g2 := mul_le (show 0 ≤ q' by omega) g
          rw [Int.mul_add] at f
          rw [Int.neg_mul] at e
          omega
    · rintro ⟨e, e1, e2, e3⟩
      have a := hx.all _ ⟨e - first, by omega, by omega, rfl⟩
      rw [dx, show first + (e - first) = e by omega, Int.neg_mul, Int.mul_sub] at a
      have f := (day_of (p := p') (c := c') (e := e) (show 0 < q' by omega)).mp rfl
      have g2 := mul_le (show 0 ≤ q' by omega) (show day p' q' c' e + 1 ≤ day p q c e by omega)
      rw [Int.mul_add] at g2
      omega
  have i2 : (u < q' - (p' * first + c')) ↔ ∀ e, first ≤ e → e ≤ last → day p' q' c' e ≤ day p q c e := by
    constructor
    · intro h e e1 e2
      have a := hy.all _ ⟨e - first, by omega, by omega, rfl⟩
      rw [dx, show first + (e - first) = e by omega, Int.neg_mul, Int.mul_sub] at a
      have f := (day_of (p := p') (c := c') (e := e) (show 0 < q' by omega)).mp rfl
      generalize day p q c e = z at *
      generalize day p' q' c' e = y at *
      rcases Int.lt_or_le z y with g | g
      · have g2 := mul_le (show 0 ≤ q' by omega) (show z + 1 ≤ y by omega)
        rw [Int.mul_add] at g2
        omega
      · exact g
    · intro h
      rcases hy.att with e | ⟨x, x0, x1, e⟩
      · cases e
      · rw [dx] at e
        have f := (day_of (p := p') (c := c') (e := first + x) (show 0 < q' by omega)).mp rfl
        have g := h (first + x) (by omega) (by omega)
        have g2 := mul_le (show 0 ≤ q' by omega) g
        rw [Int.mul_add] at f
        rw [Int.neg_mul] at e
        omega
  unfold wt
  by_cases c1 : p' * first + c' < v
  · have no : ¬ ∀ e, first ≤ e → e ≤ last → day p q c e = day p' q' c' e := fun h => by
      obtain ⟨e, e1, e2, e3⟩ := i1.mp c1
      have := h e e1 e2
      omega
    have no' := eq_false no
    simp [F_agree_on, b_agree_on, List.replicate, sPar3, dMul_bd bp bf, dMul_bd bp' bf, hv, c1, no']
  · have c1' := eq_false c1
    have yes : (∀ e, first ≤ e → e ≤ last → day p q c e = day p' q' c' e) ↔ u < q' - (p' * first + c') := by
      rw [i2]
      constructor
      · intro h e e1 e2
        have := h e e1 e2
        omega
      · intro h e e1 e2
        have a := h e e1 e2
        rcases Int.lt_or_le (day p' q' c' e) (day p q c e) with g | g
        · exact absurd (i1.mpr ⟨e, e1, e2, g⟩) c1
        · omega
    have ed : decide (∀ e, first ≤ e → e ≤ last → day p q c e = day p' q' c' e) = decide (u < q' - (p' * first + c')) := by
      rw [Bool.eq_iff_iff, decide_eq_true_iff, decide_eq_true_iff]
      exact yes
    rw [ed]
    simp [F_agree_on, b_agree_on, List.replicate, sPar3, dMul_bd bp bf, dMul_bd bp' bf, hv, c1', hu]
end P58

set_option maxRecDepth 100000
set_option maxHeartbeats 2000000
set_option autoImplicit false
namespace P58
open PySem L2 EV M59 M58
theorem sort2 (x y : Int) : [x, y].mergeSort leB = if x ≤ y then [x, y] else [y, x] := by
  by_cases h : x ≤ y
  · rw [if_pos h]
    exact List.mergeSort_of_pairwise (by simp [leB, h])
  · rw [if_neg h]
    have p1 : ([x, y].mergeSort leB).Pairwise fun a b => leB a b = true := List.pairwise_mergeSort (le := leB) (fun a b c h1 h2 => by unfold leB at *; simp at *; omega) (fun a b => by unfold leB; simp; omega) _
    have pm := List.mergeSort_perm [x, y] leB
    have pm2 : ([x, y].mergeSort leB).Perm [y, x] := pm.trans (List.Perm.swap y x [])
    exact pm2.eq_of_pairwise (le := fun a b => leB a b = true) (fun a b _ _ h1 h2 => by unfold leB at *; simp at *; omega) p1 (by simp [leB]; omega)
/-- the two agree from e0 on for all steps to L, in the direction s, and no farther -/
structure Reach (p q c p' q' c' s e0 L : Int) : Prop where
  L0 : 0 ≤ L
  all : ∀ j, 0 ≤ j → j ≤ L → day p q c (e0 + s * j) = day p' q' c' (e0 + s * j)
  out : day p q c (e0 + s * (L + 1)) ≠ day p' q' c' (e0 + s * (L + 1))
theorem sorted_two (S : Store) (x y : Int) : cSorted [.ref S.length] (S ++ [.lst [.int x, .int y]]) = .ok (.ref (S.length + 1)) (S ++ [.lst [.int x, .int y]] ++ [.lst ((if x ≤ y then [x, y] else [y, x]).map D.int)]) := by
  have h := cSorted_lst (S ++ [.lst [.int x, .int y]]) S.length [x, y] (end_get S _) (by simp [LIM])
  rw [sort2, List.length_append] at h
  exact h
theorem agree_along_ok (S : Store) (p q c p' q' c' s e0 L step : Int) (w : World_ p q c) (w' : World_ p' q' c') (hs : s = 1 ∨ s = -1) (e1 : -EB ≤ e0 - step) (e2 : e0 + step ≤ EB) (h : Reach p q c p' q' c' s e0 L) (h0 : 0 ≤ step) :
    ∃ E, F_agree_along [wt p q c, wt p' q' c', .int e0, .int s, .int step] S = .ok (.bl (decide (step ≤ L))) (S ++ E) := by
  have sv : s.natAbs < 18446744073709551616 := by omega
  generalize hx : e0 + s * step = x
  have st := sorted_two S e0 x
  generalize hS : S ++ [O.lst [.int e0, .int x]] = S1 at st
  refine ⟨[O.lst [.int e0, .int x], .lst ((if e0 ≤ x then [e0, x] else [x, e0]).map D.int)], ?_⟩
  have hE : S ++ [O.lst [.int e0, .int x], .lst ((if e0 ≤ x then [e0, x] else [x, e0]).map D.int)] = S1 ++ [.lst ((if e0 ≤ x then [e0, x] else [x, e0]).map D.int)] := by
    rw [← hS, List.append_assoc]; rfl
  rw [hE]
  have l1 : S1.length = S.length + 1 := by rw [← hS]; simp
  have ge : (S1 ++ [O.lst ((if e0 ≤ x then [e0, x] else [x, e0]).map D.int)])[S.length + 1]? = some (.lst ((if e0 ≤ x then [e0, x] else [x, e0]).map D.int)) := by
    rw [← l1]; exact end_get S1 _
  have ag := fun lo hi h1 h2 h3 => agree_on_ok (S1 ++ [O.lst ((if e0 ≤ x then [e0, x] else [x, e0]).map D.int)]) p q c p' q' c' lo hi w w' h1 h2 h3
  have reach : ∀ lo hi, (∀ e, (lo ≤ e ∧ e ≤ hi) ↔ ∃ j, 0 ≤ j ∧ j ≤ step ∧ e = e0 + s * j) → ((∀ e, lo ≤ e → e ≤ hi → day p q c e = day p' q' c' e) ↔ step ≤ L) := fun lo hi hh => by
    constructor
    · intro g
      rcases Int.lt_or_le L step with z | z
      · have := (hh (e0 + s * (L + 1))).mpr ⟨L + 1, by have := h.L0; omega, by omega, rfl⟩
        exact absurd (g _ this.1 this.2) h.out
      · exact z
    · intro g e h1 h2
      obtain ⟨j, j0, j1, rfl⟩ := (hh e).mp ⟨h1, h2⟩
      exact h.all j j0 (by omega)
  by_cases hle : e0 ≤ x
  · rw [if_pos hle] at st ge ag ⊢
    have ed : decide (∀ e, e0 ≤ e → e ≤ x → day p q c e = day p' q' c' e) = decide (step ≤ L) := by
      rw [Bool.eq_iff_iff, decide_eq_true_iff, decide_eq_true_iff]
      refine reach e0 x fun e => ⟨fun hh => ?_, fun ⟨j, j0, j1, j2⟩ => ?_⟩
      · rcases hs with r | r
        · subst r; exact ⟨e - e0, by omega, by omega, by omega⟩
        · subst r; exact ⟨0, by omega, by omega, by omega⟩
      · rcases hs with r | r
        · subst r; omega
        · subst r; omega
    have g := ag e0 x (by omega) hle (by rcases hs with r | r <;> (subst r; omega))
    rw [ed] at g
    simp only [List.map_cons, List.map_nil] at st ge g ⊢
    simp only [F_agree_along, b_agree_along]
    simp [List.replicate, dMul_l sv, hx, hS, st, dIx_ref ge, g, wt] at g ⊢
  · rw [if_neg hle] at st ge ag ⊢
    have ed : decide (∀ e, x ≤ e → e ≤ e0 → day p q c e = day p' q' c' e) = decide (step ≤ L) := by
      rw [Bool.eq_iff_iff, decide_eq_true_iff, decide_eq_true_iff]
      refine reach x e0 fun e => ⟨fun hh => ?_, fun ⟨j, j0, j1, j2⟩ => ?_⟩
      · rcases hs with r | r
        · subst r; omega
        · subst r; exact ⟨e0 - e, by omega, by omega, by omega⟩
      · rcases hs with r | r
        · subst r; omega
        · subst r; omega
    have g := ag x e0 (by rcases hs with r | r <;> (subst r; omega)) (by omega) (by omega)
    rw [ed] at g
    simp only [List.map_cons, List.map_nil] at st ge g ⊢
    simp only [F_agree_along, b_agree_along]
    simp [List.replicate, dMul_l sv, hx, hS, st, dIx_ref ge, g, wt] at g ⊢
end P58

set_option maxRecDepth 100000
set_option maxHeartbeats 2000000
set_option autoImplicit false
namespace P58
open PySem L2 EV M59 M58
noncomputable abbrev saT1 := fTru (fCall F_agree_along [] (fCons (fVar 0) (fCons (fVar 1) (fCons (fVar 2) (fCons (fVar 3) (fCons (fVar 4) fNil))))))
abbrev saB1 := sSet 4 (fBin dMul (fVar 4) (fK (.int 2)))
abbrev saT2 := fB (fBin dGtI (fBin dSub (fVar 6) (fVar 5)) (fK (.int 1)))
noncomputable abbrev saB2 := (sSeq (sSet 7 (fBin dDiv (fBin dAdd (fVar 5) (fVar 6)) (fK (.int 2))))
  (sIf (fTru (fCall F_agree_along [] (fCons (fVar 0) (fCons (fVar 1) (fCons (fVar 2) (fCons (fVar 3) (fCons (fVar 7) fNil))))))) (sSet 5 (fVar 7)) (sSet 6 (fVar 7))))
theorem sa_loop1 (p q c p' q' c' s e0 L : Int) (w : World_ p q c) (w' : World_ p' q' c') (hs : s = 1 ∨ s = -1) (e1 : -MN ≤ e0) (e2 : e0 ≤ MN) (hL : L ≤ 4 * MN) (h : Reach p q c p' q' c' s e0 L) (x5 x6 x7 : Option D) :
    ∀ (k : Nat) (S : Store) (step : Int), (L + 1 - step).toNat ≤ k → 1 ≤ step → step ≤ 10 * MN → ∃ st E, sWhile saT1 saB1 [some (wt p q c), some (wt p' q' c'), some (.int e0), some (.int s), some (.int step), x5, x6, x7] S = .nx [some (wt p q c), some (wt p' q' c'), some (.int e0), some (.int s), some (.int st), x5, x6, x7] (S ++ E) ∧ L < st ∧ st ≤ 10 * MN ∧ (st = step ∨ ∃ h, st = 2 * h ∧ h ≤ L ∧ 1 ≤ h) := by
  have big : 20 * MN ≤ EB := by decide +kernel
  have mp := mnp
  intro k
  induction k with
  | zero =>
    intro S step h0 h1 h2
    obtain ⟨E, hE⟩ := agree_along_ok S p q c p' q' c' s e0 L step w w' hs (by omega) (by omega) h (by omega)
    have no : ¬ step ≤ L := by omega
    rw [decide_eq_false no] at hE
    refine ⟨step, E, ?_, by omega, h2, .inl rfl⟩
    rw [sWhile_eq]
    simp [saT1, hE]
  | succ k ih =>
    intro S step h0 h1 h2
    obtain ⟨E, hE⟩ := agree_along_ok S p q c p' q' c' s e0 L step w w' hs (by omega) (by omega) h (by omega)
    by_cases g : step ≤ L
    · rw [decide_eq_true g] at hE
      obtain ⟨st, E', h3, h4, h5, h6⟩ := ih (S ++ E) (step * 2) (by omega) (by omega) (by omega)
      refine ⟨st, E ++ E', ?_, h4, h5, .inr ?_⟩
      · have one : sWhile saT1 saB1 [some (wt p q c), some (wt p' q' c'), some (.int e0), some (.int s), some (.int step), x5, x6, x7] S = sWhile saT1 saB1 [some (wt p q c), some (wt p' q' c'), some (.int e0), some (.int s), some (.int (step * 2)), x5, x6, x7] (S ++ E) := by
          rw [sWhile_eq]
          simp [saT1, saB1, hE, dMul_r]
        rw [one, h3, List.append_assoc]
      · rcases h6 with h6 | ⟨x, a, b, d⟩
        · exact ⟨step, by omega, g, h1⟩
        · exact ⟨x, a, b, d⟩
    · rw [decide_eq_false g] at hE
      refine ⟨step, E, ?_, by omega, h2, .inl rfl⟩
      rw [sWhile_eq]
      simp [saT1, hE]
theorem sa_loop2 (p q c p' q' c' s e0 L : Int) (w : World_ p q c) (w' : World_ p' q' c') (hs : s = 1 ∨ s = -1) (e1 : -MN ≤ e0) (e2 : e0 ≤ MN) (h : Reach p q c p' q' c' s e0 L) (x4 : Option D) :
    ∀ (k : Nat) (S : Store) (lo hi : Int) (x7 : Option D), (hi - lo).toNat ≤ k → 0 ≤ lo → lo ≤ L → L < hi → hi ≤ 10 * MN → ∃ y6 y7 E, sWhile saT2 saB2 [some (wt p q c), some (wt p' q' c'), some (.int e0), some (.int s), x4, some (.int lo), some (.int hi), x7] S = .nx [some (wt p q c), some (wt p' q' c'), some (.int e0), some (.int s), x4, some (.int L), y6, y7] (S ++ E) := by
  have big : 20 * MN ≤ EB := by decide +kernel
  have mp := mnp
  intro k
  induction k with
  | zero => intro S lo hi x7 h0 h1 h2 h3; omega
  | succ k ih =>
    intro S lo hi x7 h0 h1 h2 h3 h4
    by_cases g : 1 < hi - lo
    · generalize hm : (lo + hi) / 2 = m
      obtain ⟨E, hE⟩ := agree_along_ok S p q c p' q' c' s e0 L m w w' hs (by omega) (by omega) h (by omega)
      by_cases gm : m ≤ L
      · rw [decide_eq_true gm] at hE
        obtain ⟨y6, y7, E', h5⟩ := ih (S ++ E) m hi (some (.int m)) (by omega) (by omega) gm h3 h4
        refine ⟨y6, y7, E ++ E', ?_⟩
        have one : sWhile saT2 saB2 [some (wt p q c), some (wt p' q' c'), some (.int e0), some (.int s), x4, some (.int lo), some (.int hi), x7] S = sWhile saT2 saB2 [some (wt p q c), some (wt p' q' c'), some (.int e0), some (.int s), x4, some (.int m), some (.int hi), some (.int m)] (S ++ E) := by
          rw [sWhile_eq]
          simp [saT2, saB2, g, dDiv_bd (show (0 : Int) < 2 by omega) (Bd.of 2 (by omega)), hm, hE]
        rw [one, h5, List.append_assoc]
      · rw [decide_eq_false gm] at hE
        obtain ⟨y6, y7, E', h5⟩ := ih (S ++ E) lo m (some (.int m)) (by omega) h1 h2 (by omega) (by omega)
        refine ⟨y6, y7, E ++ E', ?_⟩
        have one : sWhile saT2 saB2 [some (wt p q c), some (wt p' q' c'), some (.int e0), some (.int s), x4, some (.int lo), some (.int hi), x7] S = sWhile saT2 saB2 [some (wt p q c), some (wt p' q' c'), some (.int e0), some (.int s), x4, some (.int lo), some (.int m), some (.int m)] (S ++ E) := by
          rw [sWhile_eq]
          simp [saT2, saB2, g, dDiv_bd (show (0 : Int) < 2 by omega) (Bd.of 2 (by omega)), hm, hE]
        rw [one, h5, List.append_assoc]
    · have e : lo = L := by omega
      subst e
      refine ⟨some (.int hi), x7, [], ?_⟩
      rw [sWhile_eq, List.append_nil]
      simp [saT2, g]
theorem steps_ok (S : Store) (p q c p' q' c' s e0 L : Int) (w : World_ p q c) (w' : World_ p' q' c') (hs : s = 1 ∨ s = -1) (e1 : -MN ≤ e0) (e2 : e0 ≤ MN) (hL : L ≤ 4 * MN) (h : Reach p q c p' q' c' s e0 L) :
    ∃ E, F_steps_agreed [wt p q c, wt p' q' c', .int e0, .int s] S = .ok (.int L) (S ++ E) := by
  have mp := mnp
  obtain ⟨st, E1, h1, h2, h3, h4⟩ := sa_loop1 p q c p' q' c' s e0 L w w' hs e1 e2 hL h none none none (L + 1 - 1).toNat S 1 (Nat.le_refl _) (by omega) (by omega)
  have l0 := h.L0
  obtain ⟨y6, y7, E2, h5⟩ := sa_loop2 p q c p' q' c' s e0 L w w' hs e1 e2 h (some (.int st)) (st - st / 2).toNat (S ++ E1) (st / 2) st none (Nat.le_refl _) (by omega) (by omega) h2 h3
  refine ⟨E1 ++ E2, ?_⟩
  simp only [saT1, saB1, saT2, saB2, List.append_assoc] at h1 h5
  simp only [F_steps_agreed, b_steps_agreed]
  simp [List.replicate, h1, dDiv_bd (show (0 : Int) < 2 by omega) (Bd.of 2 (by omega)), h5]
/-! ### the reach -/
theorem reach_ex {p q c p' q' c' : Int} (w : World_ p q c) (w' : World_ p' q' c') (hne : ¬ (p = p' ∧ q = q' ∧ c = c')) (s e0 : Int) (hs : s = 1 ∨ s = -1) (h : day p q c e0 = day p' q' c' e0) : ∃ L, Reach p q c p' q' c' s e0 L ∧ L + 2 ≤ q + q' := by
  have q1 := w.q1
  have q2 := w'.q1
  -- a step that parts
  obtain ⟨j0, a1, a2, a3⟩ : ∃ j : Nat, 1 ≤ (j : Int) ∧ (j : Int) ≤ q + q' - 1 ∧ day p q c (e0 + s * j) ≠ day p' q' c' (e0 + s * j) := by
    rcases hs with hs | hs
    · obtain ⟨e, x1, x2, x3⟩ := part_in w.wd w'.wd hne e0
      have ne : e ≠ e0 := fun z => x3 (by rw [z]; exact h)
      refine ⟨(e - e0).toNat, by omega, by omega, ?_⟩
      rw [hs, show e0 + 1 * (((e - e0).toNat : Nat) : Int) = e by omega]
      exact x3
    · obtain ⟨e, x1, x2, x3⟩ := part_in w.wd w'.wd hne (e0 - (q + q') + 1)
      have ne : e ≠ e0 := fun z => x3 (by rw [z]; exact h)
      refine ⟨(e0 - e).toNat, by omega, by omega, ?_⟩
      rw [hs, show e0 + -1 * (((e0 - e).toNat : Nat) : Int) = e by omega]
      exact x3
  -- the first of them
  have first : ∀ n : Nat, (∀ j : Nat, j ≤ n → day p q c (e0 + s * j) = day p' q' c' (e0 + s * j)) ∨ ∃ m : Nat, m < n ∧ (∀ j : Nat, j ≤ m → day p q c (e0 + s * j) = day p' q' c' (e0 + s * j)) ∧ day p q c (e0 + s * ((m : Int) + 1)) ≠ day p' q' c' (e0 + s * ((m : Int) + 1)) := by
    intro n
    induction n with
    | zero =>
      left
      intro j hj
      have : j = 0 := by omega
      subst this
      simpa using h
    | succ n ih =>
      rcases ih with ih | ⟨m, m1, m2, m3⟩
      · by_cases g : day p q c (e0 + s * ((n : Int) + 1)) = day p' q' c' (e0 + s * ((n : Int) + 1))
        · left
          intro j hj
          by_cases z : j ≤ n
          · exact ih j z
          · have : j = n + 1 := by omega
            subst this
            exact g
        · exact .inr ⟨n, by omega, ih, g⟩
      · exact .inr ⟨m, by omega, m2, m3⟩
  rcases first j0 with g | ⟨m, m1, m2, m3⟩
  · exact absurd (g j0 (Nat.le_refl _)) a3
  · refine ⟨m, ⟨by omega, fun j j0 j1 => ?_, m3⟩, by omega⟩
    have := m2 j.toNat (by omega)
    rwa [Int.toNat_of_nonneg j0] at this
end P58

set_option maxRecDepth 100000
set_option maxHeartbeats 2000000
set_option autoImplicit false
namespace P58
open PySem L2 EV M59 M58
theorem day_among_ok (S : Store) (p q c e : Int) (w : World_ p q c) (e1 : -EB ≤ e) (e2 : e ≤ EB) : F_day_among [wt p q c, .int e] S = .ok (.int (day p q c e)) S := by
  have q1 := w.q1
  have bp : Bd p := bd_mn w.p1 w.p2
  have bq : Bd q := bd_mn (by have := mnp; omega) w.q2
  have be : Bd e := bd_of (Bd.of (10 ^ 80) (by decide +kernel) : Bd EB) e1 e2
  simp [F_day_among, b_day_among, List.replicate, wt, dMul_bd bp be, dDiv_bd (show 0 < q by omega) bq, day]
theorem eqv_wt (p q c p' q' c' : Int) : PyData.eqv (D.dat (wt p q c)) (D.dat (wt p' q' c')) = decide (p = p' ∧ q = q' ∧ c = c') := by
  rw [Bool.eq_iff_iff]
  simp [wt, D.dat, D.dats, PyData.eqv, PyData.eqvAll]
theorem eq_wt (S : Store) (p q c p' q' c' : Int) : dEq (wt p q c) (wt p' q' c') S = .ok (.bl (decide (p = p' ∧ q = q' ∧ c = c'))) S := by
  have d1 : ∀ p q c : Int, datS S (wt p q c) = some (D.dat (wt p q c)) := fun p q c => by simp [datS, wt, D.okd, D.okds]
  have dl : ∀ p q c : Int, (D.dat (wt p q c)).depth ≤ 64 := fun p q c => by simp [wt, D.dat, D.dats, PyData.depth, PyData.depthAll]
  show dEqB id (wt p q c) (wt p' q' c') S = _
  unfold dEqB
  rw [d1, d1]
  dsimp only
  rw [if_pos ⟨dl _ _ _, dl _ _ _⟩, eqv_wt]
  rfl
theorem check_worlds_ok (S : Store) (p q c p' q' c' : Int) (w : World_ p q c) (w' : World_ p' q' c') : F_check_worlds [wt p q c, wt p' q' c'] S = .ok .non S := by
  have h1 := check_world_ok p q c (.str "world") w.p1 w.p2 w.q1 w.q2 w.co w.c1 w.c2 S
  have h2 := check_world_ok p' q' c' (.str "other") w'.p1 w'.p2 w'.q1 w'.q2 w'.co w'.c1 w'.c2 S
  simp [F_check_worlds, b_check_worlds, wt, h1, h2]
theorem day_ne (S : Store) (x y : Int) : dNe (.int x) (.int y) S = .ok (.bl (!decide (x = y))) S := dNe_int x y S
section
variable (S : Store) (p q c p' q' c' e : Int) (w : World_ p q c) (w' : World_ p' q' c') (e1 : -1000000000000000000 ≤ e) (e2 : e ≤ 1000000000000000000)
include w w' e1 e2
theorem ev_bounds : -MN ≤ e ∧ e ≤ MN ∧ -EB ≤ e ∧ e ≤ EB := by
  have : (1000000000000000000 : Int) ≤ MN := by decide +kernel
  have : MN ≤ EB := by decide +kernel
  omega
theorem parting_same (h : p = p' ∧ q = q' ∧ c = c') : F_parting [wt p q c, wt p' q' c', .int e] S = .ok .non S := by
  have h1 := check_worlds_ok S p q c p' q' c' w w'
  have h2 := eq_wt S p q c p' q' c'
  rw [decide_eq_true h] at h2
  simp [F_parting, b_parting, h1, e1, e2, h2]
theorem parting_now (h : ¬ (p = p' ∧ q = q' ∧ c = c')) (g : day p q c e ≠ day p' q' c' e) : F_parting [wt p q c, wt p' q' c', .int e] S = .ok (.int e) S := by
  have b := ev_bounds p q c p' q' c' e w w' e1 e2
  have h1 := check_worlds_ok S p q c p' q' c' w w'
  have h2 := eq_wt S p q c p' q' c'
  rw [decide_eq_false h] at h2
  have h3 := day_among_ok S p q c e w b.2.2.1 b.2.2.2
  have h4 := day_among_ok S p' q' c' e w' b.2.2.1 b.2.2.2
  simp [F_parting, b_parting, h1, e1, e2, h2, h3, h4, g]
theorem parting_later (h : ¬ (p = p' ∧ q = q' ∧ c = c')) (L : Int) (hL : L ≤ 4 * MN) (r : Reach p q c p' q' c' 1 e L) : ∃ E, F_parting [wt p q c, wt p' q' c', .int e] S = .ok (.int (e + L + 1)) (S ++ E) := by
  have b := ev_bounds p q c p' q' c' e w w' e1 e2
  have h1 := check_worlds_ok S p q c p' q' c' w w'
  have h2 := eq_wt S p q c p' q' c'
  rw [decide_eq_false h] at h2
  have h3 := day_among_ok S p q c e w b.2.2.1 b.2.2.2
  have h4 := day_among_ok S p' q' c' e w' b.2.2.1 b.2.2.2
  have g := r.all 0 (by omega) r.L0
  rw [show e + 1 * (0 : Int) = e by omega] at g
  rw [g] at h3
  obtain ⟨E, h5⟩ := steps_ok S p q c p' q' c' 1 e L w w' (.inl rfl) b.1 b.2.1 hL r
  refine ⟨E, ?_⟩
  simp [F_parting, b_parting, h1, e1, e2, h2, h3, h4, h5]
theorem together_same (h : p = p' ∧ q = q' ∧ c = c') : F_together [wt p q c, wt p' q' c', .int e] S = .ok (.tup [.non, .non]) S := by
  have h1 := check_worlds_ok S p q c p' q' c' w w'
  have h2 := eq_wt S p q c p' q' c'
  rw [decide_eq_true h] at h2
  simp [F_together, b_together, List.replicate, h1, e1, e2, h2]
theorem together_now (h : ¬ (p = p' ∧ q = q' ∧ c = c')) (g : day p q c e ≠ day p' q' c' e) : F_together [wt p q c, wt p' q' c', .int e] S = .ok .non S := by
  have b := ev_bounds p q c p' q' c' e w w' e1 e2
  have h1 := check_worlds_ok S p q c p' q' c' w w'
  have h2 := eq_wt S p q c p' q' c'
  rw [decide_eq_false h] at h2
  have h3 := day_among_ok S p q c e w b.2.2.1 b.2.2.2
  have h4 := day_among_ok S p' q' c' e w' b.2.2.1 b.2.2.2
  simp [F_together, b_together, List.replicate, h1, e1, e2, h2, h3, h4, g]
theorem together_later (h : ¬ (p = p' ∧ q = q' ∧ c = c')) (L B : Int) (hL : L ≤ 4 * MN) (r : Reach p q c p' q' c' 1 e L) (hB : B ≤ 4 * MN) (rb : Reach p q c p' q' c' (-1) e B) : ∃ E, F_together [wt p q c, wt p' q' c', .int e] S = .ok (.tup [.int (e - B), .int (e + L)]) (S ++ E) := by
  have b := ev_bounds p q c p' q' c' e w w' e1 e2
  have h1 := check_worlds_ok S p q c p' q' c' w w'
  have h2 := eq_wt S p q c p' q' c'
  rw [decide_eq_false h] at h2
  have h3 := day_among_ok S p q c e w b.2.2.1 b.2.2.2
  have h4 := day_among_ok S p' q' c' e w' b.2.2.1 b.2.2.2
  have g := r.all 0 (by omega) r.L0
  rw [show e + 1 * (0 : Int) = e by omega] at g
  rw [g] at h3
  obtain ⟨E, h5⟩ := steps_ok S p q c p' q' c' (-1) e B w w' (.inr rfl) b.1 b.2.1 hB rb
  obtain ⟨E2, h6⟩ := steps_ok (S ++ E) p q c p' q' c' 1 e L w w' (.inl rfl) b.1 b.2.1 hL r
  refine ⟨E ++ E2, ?_⟩
  simp only [List.append_assoc] at h6
  simp [F_together, b_together, List.replicate, h1, e1, e2, h2, h3, h4, h5, h6]
end
theorem run_parting (S : Store) (w o e v : D) (E : Store) (h : F_parting [w, o, e] S = .ok v (S ++ E)) : F__law_run [.str "parting", w, o, e] S = .ok (.tup [.str "answer", v]) (S ++ E) := by
  simp [F__law_run, b__law_run, h]
theorem run_together (S : Store) (w o e v : D) (E : Store) (h : F_together [w, o, e] S = .ok v (S ++ E)) : F__law_run [.str "together", w, o, e] S = .ok (.tup [.str "answer", v]) (S ++ E) := by
  have ne : ¬ ("together" : Str) = "parting" := by decide +kernel
  simp [F__law_run, b__law_run, h, ne]
end P58

set_option maxRecDepth 100000
set_option maxHeartbeats 2000000
set_option autoImplicit false
namespace P58
open PySem L2 EV M59 M58
/-! ### the same -/
theorem same_gen (S : Store) (d : D) (h1 : pln d = true) (h2 : siz d < 999999) (h3 : D.okd d = true) (h4 : (D.dat d).showable = true) (h5 : (D.dat d).leavesShort 301 = true) (h6 : (D.dat d).weight ≤ 50000) (h7 : (D.dat d).depth ≤ 60) : ∃ E, F__law_same [d, d] S = .ok (.bl true) (S ++ E) := by
  obtain ⟨E, h⟩ := plain_ok S d h1 h2
  have hl := PyData.shown_le 301 (by decide) (D.dat d) h5
  have hl2 : (D.dat d).shown.length ≤ 16777216 := by
    have := Nat.mul_le_mul_left (301 + 2) h6
    omega
  have r : ∀ S, cRepr [d] S = .ok (.str (D.dat d).shown) S := fun S => by
    simp only [cRepr]
    rw [if_pos ⟨h3, h4, hl2, h7⟩]
  exact ⟨E, by simp [F__law_same, b__law_same, h, r]⟩
def ans (v : D) : D := .tup [.str "answer", v]
theorem ans_str : PySem.PyData.strOk ("answer" : Str) = true ∧ (PyData.str ("answer" : Str)).leavesShort 301 = true ∧ (PyData.str ("answer" : Str)).weight = 6 := by decide +kernel
theorem same_non (S : Store) : ∃ E, F__law_same [ans .non, ans .non] S = .ok (.bl true) (S ++ E) := by
  obtain ⟨a, b, c⟩ := ans_str
  refine same_gen S _ ?_ ?_ ?_ ?_ ?_ ?_ ?_
  · simp [ans, pln, plns]
  · simp [ans, siz, sizs]
  · simp [ans, D.okd, D.okds, a]
  · simp [ans, D.dat, D.dats, PyData.showable, PyData.showableAll]
  · simp [ans, D.dat, D.dats, PyData.leavesShort, PyData.leavesShortAll] at b ⊢; exact b
  · simp only [ans, D.dat, D.dats, PyData.weight, PyData.weightAll] at c ⊢; omega
  · simp [ans, D.dat, D.dats, PyData.depth, PyData.depthAll]
theorem same_int (S : Store) (i : Int) (h : Sml i) : ∃ E, F__law_same [ans (.int i), ans (.int i)] S = .ok (.bl true) (S ++ E) := by
  obtain ⟨a, b, c⟩ := ans_str
  have t := int_text h
  have w := int_wt h
  have l := h.log
  refine same_gen S _ ?_ ?_ ?_ ?_ ?_ ?_ ?_
  · simp [ans, pln, plns]
  · simp [ans, siz, sizs]
  · simp [ans, D.okd, D.okds, a]
  · simp [ans, D.dat, D.dats, PyData.showable, PyData.showableAll]; omega
  · simp [ans, D.dat, D.dats, PyData.leavesShort, PyData.leavesShortAll, t] at b ⊢; exact b
  · simp only [ans, D.dat, D.dats, PyData.weight, PyData.weightAll] at c w ⊢; omega
  · simp [ans, D.dat, D.dats, PyData.depth, PyData.depthAll]
theorem same_nons (S : Store) : ∃ E, F__law_same [ans (.tup [.non, .non]), ans (.tup [.non, .non])] S = .ok (.bl true) (S ++ E) := by
  obtain ⟨a, b, c⟩ := ans_str
  refine same_gen S _ ?_ ?_ ?_ ?_ ?_ ?_ ?_
  · simp [ans, pln, plns]
  · simp [ans, siz, sizs]
  · simp [ans, D.okd, D.okds, a]
  · simp [ans, D.dat, D.dats, PyData.showable, PyData.showableAll]
  · simp [ans, D.dat, D.dats, PyData.leavesShort, PyData.leavesShortAll] at b ⊢; exact b
  · simp only [ans, D.dat, D.dats, PyData.weight, PyData.weightAll] at c ⊢; omega
  · simp [ans, D.dat, D.dats, PyData.depth, PyData.depthAll]
theorem same_ints (S : Store) (i j : Int) (h : Sml i) (h' : Sml j) : ∃ E, F__law_same [ans (.tup [.int i, .int j]), ans (.tup [.int i, .int j])] S = .ok (.bl true) (S ++ E) := by
  obtain ⟨a, b, c⟩ := ans_str
  have t := int_text h
  have w := int_wt h
  have l := h.log
  have t' := int_text h'
  have w' := int_wt h'
  have l' := h'.log
  refine same_gen S _ ?_ ?_ ?_ ?_ ?_ ?_ ?_
  · simp [ans, pln, plns]
  · simp [ans, siz, sizs]
  · simp [ans, D.okd, D.okds, a]
  · simp [ans, D.dat, D.dats, PyData.showable, PyData.showableAll]; omega
  · simp [ans, D.dat, D.dats, PyData.leavesShort, PyData.leavesShortAll, t, t'] at b ⊢; exact b
  · simp only [ans, D.dat, D.dats, PyData.weight, PyData.weightAll] at c w w' ⊢; omega
  · simp [ans, D.dat, D.dats, PyData.depth, PyData.depthAll]
/-! ### the law's day -/
theorem law_day_ok (S : Store) (p q c e : Int) (bp : Bd p) (q0 : 0 < q) (bq : Bd q) (be : Bd e) : F__law_day [wt p q c, .int e] S = .ok (.int (day p q c e)) S := by
  simp [F__law_day, b__law_day, wt, dMul_bd bp be, dDiv_bd q0 bq, day]
theorem law_agree_ok (S : Store) (p q c p' q' c' e : Int) (bp : Bd p) (q0 : 0 < q) (bq : Bd q) (bp' : Bd p') (q0' : 0 < q') (bq' : Bd q') (be : Bd e) : F__law_agree [wt p q c, wt p' q' c', .int e] S = .ok (.bl (decide (day p q c e = day p' q' c' e))) S := by
  simp [F__law_agree, b__law_agree, law_day_ok _ p q c e bp q0 bq be, law_day_ok _ p' q' c' e bp' q0' bq' be]
/-! ### the law's inverse -/
noncomputable abbrev liB : Sv := (sSeq (sIf (fB (fBin dLeI (fVar 4) (fK (.int 1)))) (sRet (fBin dMod (fCB cInt (fCons (fVar 6) fNil)) (fVar 1))) sNil)
  (sSeq (sSet 7 (fBin dDiv (fVar 3) (fVar 4)))
  (sSeq (sPar 3 4 (fCons (fVar 4) (fCons (fBin dSub (fVar 3) (fBin dMul (fVar 7) (fVar 4))) fNil)))
  (sPar 5 6 (fCons (fVar 6) (fCons (fBin dSub (fVar 5) (fBin dMul (fVar 7) (fVar 6))) fNil))))))
theorem li_loop (S : Store) (p q : Int) (hq : 1 < q) (bq : Bd q) : ∀ (k : Nat) (rs : List D) (one two low high u v : Int) (x2 w : Option D), one * two < 2 ^ k → k + 1 ≤ rs.length → 0 ≤ two → two < one → one ≤ q → Int.gcd one two = 1 →
    (∃ k, p * low = one + q * k) → (∃ k, p * high = two + q * k) → 1 < one → -u ≤ low → low ≤ u → -v ≤ high → high ≤ v → 0 ≤ u → 0 ≤ v → u * two + v * one = q →
    ∃ d : Int, forL [] (ptName 2) liB rs [some (.int p), some (.int q), x2, some (.int one), some (.int two), some (.int low), some (.int high), w] S = .rt (.int (d % q)) S ∧ ∃ k, p * d = 1 + q * k := by
  intro k
  induction k with
  | zero =>
    intro rs one two low high u v x2 w hk hr h1 h3 h4 co hl hh hs u1 u2 v1 v2 u0 v0 inv
    have e : two = 0 := by
      have : (2 : Int) ^ 0 = 1 := rfl
      rcases Int.lt_or_le 0 two with g | g
      · have := mul_le (show 0 ≤ one by omega) (show 1 ≤ two by omega)
        omega
      · omega
    subst e
    rw [Int.gcd_zero] at co
    omega
  | succ k ih =>
    intro rs one two low high u v x2 w hk hr h1 h3 h4 co hl hh hs u1 u2 v1 v2 u0 v0 inv
    match rs, hr with
    | r :: rs, hr =>
      rw [forL_cons0]
      simp only [ev_ptName, List.set_cons_succ, List.set_cons_zero]
      by_cases g : two ≤ 1
      · have e : two = 1 := by
          by_cases z : two = 0
          · subst z
            rw [Int.gcd_zero] at co
            omega
          · omega
        subst e
        refine ⟨high, ?_, hh⟩
        have st : liB [some (.int p), some (.int q), some r, some (.int one), some (.int 1), some (.int low), some (.int high), w] S = .rt (.int (high % q)) S := by
          simp [liB, dMod_pos (show 0 < q by omega)]
        rw [st]
      · have f := fl (show 0 < two by omega) one
        have w0 : 0 ≤ one / two := Int.ediv_nonneg (by omega) (by omega)
        have w1 : one / two ≤ q := by
          have := mul_le w0 (show 1 ≤ two by omega)
          rw [Int.mul_comm two] at f
          omega
        have vq : v ≤ q := by
          have a := mul_le v0 (show 1 ≤ one by omega)
          have b := Int.mul_nonneg u0 h1
          omega
        have bt : Bd two := bd_of bq (by omega) (by omega)
        have bw : Bd (one / two) := bd_of bq (by omega) w1
        have bh : Bd high := bd_of bq (by omega) (by omega)
        have st : liB [some (.int p), some (.int q), some r, some (.int one), some (.int two), some (.int low), some (.int high), w] S = .nx [some (.int p), some (.int q), some r, some (.int two), some (.int (one - one / two * two)), some (.int high), some (.int (low - one / two * high)), some (.int (one / two))] S := by
          simp [liB, g, dDiv_bd (show 0 < two by omega) bt, dMul_bd bw bt, dMul_bd bw bh]
        rw [st]
        dsimp only
        have m0 := Int.emod_nonneg one (show two ≠ 0 by omega)
        have m1 := Int.emod_lt_of_pos one (show 0 < two by omega)
        have me := Int.emod_add_mul_ediv one two
        have e1 : one - one / two * two = one % two := by rw [Int.mul_comm]; omega
        have co2 := co
        rw [gcd_step] at co2
        obtain ⟨k1, hk1⟩ := hl
        obtain ⟨k2, hk2⟩ := hh
        have wv := Int.mul_nonneg w0 v0
        have up1 := mul_le w0 v2
        have up2 := mul_le w0 v1
        rw [Int.mul_neg] at up2
        have half : two * (one % two) * 2 ≤ one * two := by
          have d1 : 1 ≤ one / two := le_fl (show 0 < two by omega) (x := 1) (k := one / two) (N := one) (by omega) f.2
          have := mul_le (show 0 ≤ two by omega) d1
          have := mul_le (show 0 ≤ two by omega) (show one % two * 2 ≤ one by omega)
          rw [Int.mul_assoc, Int.mul_comm one]
          exact this
        have pw : (2 : Int) ^ (k + 1) = 2 ^ k * 2 := Int.pow_succ ..
        refine ih rs two (one - one / two * two) high (low - one / two * high) v (u + one / two * v) _ _ (by rw [e1]; omega) (by simp only [List.length_cons] at hr; omega) (by omega) (by omega) (by omega) (by rw [e1]; exact co2) ⟨k2, hk2⟩ ⟨k1 - one / two * k2, ?_⟩ (by omega) v1 v2 (by omega) (by omega) v0 (by omega) ?_
        · rw [Int.mul_sub, hk1, Int.mul_left_comm p, hk2, Int.mul_add, Int.mul_sub, Int.mul_left_comm q]
          omega
        · rw [Int.mul_sub, Int.add_mul, Int.mul_assoc (one / two) v two, Int.mul_left_comm v, ← inv]
          omega
theorem law_inverse_ok (S : Store) (p q : Int) (hq : 1 < q) (hq2 : q ≤ MN) (co : Int.gcd p q = 1) : ∃ l k, F__law_inverse [.int p, .int q] S = .ok (.int l) S ∧ p * l = 1 + q * k ∧ 0 < l ∧ l < q := by
  have m0 := Int.emod_nonneg p (show q ≠ 0 by omega)
  have m1 := Int.emod_lt_of_pos p (show 0 < q by omega)
  have bq : Bd q := bd_mn (by have := mnp; omega) hq2
  obtain ⟨n, hn⟩ : ∃ n : Nat, n = 10000 := ⟨_, rfl⟩
  have pot : q * (p % q) < 2 ^ 1000 := by
    have a := mul_le (show 0 ≤ q by omega) (show p % q ≤ MN by omega)
    have b := Int.mul_le_mul_of_nonneg_right hq2 (show 0 ≤ MN by have := mnp; omega)
    have c : MN * MN < 2 ^ 1000 := by decide +kernel
    omega
  obtain ⟨d, h, k, hk⟩ := li_loop S p q hq bq 1000 (rngD 0 n 1) q (p % q) 0 1 0 1 none none pot (by rw [rngD_len]; omega) m0 m1 (Int.le_refl _) (by rw [← gcd_step]; exact co) ⟨-1, by omega⟩ ⟨p / q, by have := Int.emod_add_mul_ediv p q; omega⟩ hq (by omega) (by omega) (by omega) (by omega) (by omega) (by omega) (by omega)
  have hr := sFor_ok (fiRng (fCons (fK (.int 10000)) fNil)) (ptName 2) liB [some (.int p), some (.int q), none, some (.int q), some (.int (p % q)), some (.int 0), some (.int 1), none] S S (rngD 0 n 1, []) (rng_tail _ _ _ _ 10000 (by simp) (by unfold M62; omega) (by unfold M62; omega) n (by omega))
  rw [h] at hr
  simp only [liB] at hr
  have r0 := Int.emod_nonneg d (show q ≠ 0 by omega)
  have r1 := Int.emod_lt_of_pos d (show 0 < q by omega)
  have re := Int.emod_add_mul_ediv d q
  have hl : p * (d % q) = 1 + q * (k - p * (d / q)) := by
    rw [show d % q = d - q * (d / q) by omega, Int.mul_sub, hk, Int.mul_sub, Int.mul_left_comm p q]
    omega
  refine ⟨d % q, k - p * (d / q), ?_, hl, ?_, r1⟩
  · simp only [F__law_inverse, b__law_inverse]
    simp [List.replicate, dMod_pos (show 0 < q by omega), hr]
  · rcases Int.lt_or_le 0 (d % q) with g | g
    · exact g
    · have z : d % q = 0 := by omega
      rw [z, Int.mul_zero] at hl
      generalize k - p * (d / q) = t at hl
      have t1 : t < 0 := by
        rcases Int.lt_or_le t 0 with g | g
        · exact g
        · have := Int.mul_nonneg (show 0 ≤ q by omega) g
          omega
      have := mul_le (show 0 ≤ q by omega) (show t ≤ -1 by omega)
      omega
end P58

set_option maxRecDepth 100000
set_option maxHeartbeats 4000000
set_option autoImplicit false
namespace P58
open PySem L2 EV M59 M58
@[simp] theorem law_is_integer_int (i : Int) (S : Store) : F__law_is_integer [.int i] S = .ok (.bl true) S := by
  simp [F__law_is_integer, b__law_is_integer]
theorem ints3 (S : Store) (p q c : Int) (x1 x2 x3 x4 : Option D) : fLc (fiSeq (fVar 0)) (ptName 4) tYesB (fCall F__law_is_integer [] (fCons (fVar 4) fNil)) [4] [some (wt p q c), x1, x2, x3, x4] S = .ok (.ref S.length) (S ++ [.lst [.bl true, .bl true, .bl true]]) := by
  have h := fLc_map (fi := fiSeq (fVar 0)) (p := ptName 4) (t := tYesB) (f := fCall F__law_is_integer [] (fCons (fVar 4) fNil)) (ws := [4]) (env := [some (wt p q c), x1, x2, x3, x4]) (S := S) (S1 := S) (ds := [.int p, .int q, .int c]) (gs := []) (fun _ => .bl true) (by simp [fiSeq, wt, itSeq]) (by simp [LIM]) (fun _ => held0 _) (fun d hd => by
    refine ⟨_, rfl, fun a => ⟨rfl, ?_⟩⟩
    simp only [List.mem_cons, List.not_mem_nil, or_false] at hd
    rcases hd with e | e | e <;> (subst e; simp [wipeP]))
  exact h
theorem law_is_world_ok (S : Store) (p q c : Int) (b : Bool) (hb : b = true ↔ World_ p q c) : F__law_is_world [wt p q c] S = .ok (.bl b) (S ++ [.lst [.bl true, .bl true, .bl true]]) := by
  have i3 := ints3 S p q c none none none none
  have g : cAll [.ref S.length] (S ++ [.lst [.bl true, .bl true, .bl true]]) = .ok (.bl true) (S ++ [.lst [.bl true, .bl true, .bl true]]) := by
    simp [cAll, blsOf]
  have t1 : ∀ S, cIsi [wt p q c, .ty "tuple"] S = .ok (.bl true) S := fun _ => rfl
  have t2 : ∀ S, cLen [wt p q c] S = .ok (.int 3) S := fun _ => rfl
  obtain ⟨ap, hap⟩ : ∃ ap, ap = if p < 0 then -p else p := ⟨_, rfl⟩
  obtain ⟨ac, hac⟩ : ∃ ac, ac = if c < 0 then -c else c := ⟨_, rfl⟩
  have a1 : ap ≤ MN ↔ -MN ≤ p ∧ p ≤ MN := by rw [hap]; have := mnp; split <;> omega
  have a2 : ac ≤ MN ↔ -MN ≤ c ∧ c ≤ MN := by rw [hac]; have := mnp; split <;> omega
  have mn : MN = 1000000000000000000000000000000000000000000000000000000000000 := rfl
  rw [mn] at a1 a2
  generalize hS : S ++ [O.lst [.bl true, .bl true, .bl true]] = S1 at i3 g ⊢
  have pow : (10 : Int) ^ (60 : Int).toNat = 1000000000000000000000000000000000000000000000000000000000000 := by decide +kernel
  have w : wt p q c = .tup [.int p, .int q, .int c] := rfl
  simp only [F__law_is_world, b__law_is_world]
  by_cases h1 : 1 ≤ q
  · by_cases h2 : q ≤ 1000000000000000000000000000000000000000000000000000000000000
    · by_cases h3 : ap ≤ 1000000000000000000000000000000000000000000000000000000000000
      · by_cases h4 : ac ≤ 1000000000000000000000000000000000000000000000000000000000000
        · have dv := divisor_ok S1 p q (by omega) (Int.lt_of_le_of_lt h2 (by decide +kernel))
          by_cases h5 : Int.gcd p q = 1
          · have : b = true := hb.mpr ⟨(a1.mp h3).1, (a1.mp h3).2, h1, h2, h5, (a2.mp h4).1, (a2.mp h4).2⟩
            rw [this]
            have h5' : (Int.gcd p q : Int) = 1 := by omega
            rw [h5'] at dv
            simp [List.replicate, t1, t2, i3, g]
            simp [w, h1, h2, ← hap, h3, ← hac, h4, dv]
          · have : b = false := by
              cases b with
              | false => rfl
              | true => exact absurd (hb.mp rfl).co h5
            rw [this]
            simp [List.replicate, t1, t2, i3, g]
            simp [w, h1, h2, ← hap, h3, ← hac, h4, dv]
            omega
        · have : b = false := by
            cases b with
            | false => rfl
            | true => exact absurd (a2.mpr ⟨(hb.mp rfl).c1, (hb.mp rfl).c2⟩) h4
          rw [this]
          simp [List.replicate, t1, t2, i3, g]
          simp [w, h1, h2, ← hap, h3, ← hac, h4]
      · have : b = false := by
          cases b with
          | false => rfl
          | true => exact absurd (a1.mpr ⟨(hb.mp rfl).p1, (hb.mp rfl).p2⟩) h3
        rw [this]
        simp [List.replicate, t1, t2, i3, g]
        simp [w, h1, h2, ← hap, h3]
    · have : b = false := by
        cases b with
        | false => rfl
        | true => exact absurd (hb.mp rfl).q2 h2
      rw [this]
      simp [List.replicate, t1, t2, i3, g]
      simp [w, h1, h2]
  · have : b = false := by
      cases b with
      | false => rfl
      | true => exact absurd (hb.mp rfl).q1 h1
    rw [this]
    simp [List.replicate, t1, t2, i3, g]
    simp [w, h1]
/-! ### near worlds -/
/-- a small world -/
structure Small (p q c b : Int) : Prop where
  q0 : 0 < q
  q1 : q ≤ b
  co : Int.gcd p q = 1
  p1 : -1000000 ≤ p
  p2 : p ≤ 1000000
  c1 : -1000000 ≤ c
  c2 : c ≤ 1000000
theorem Small.world {p q c b : Int} (h : Small p q c b) (hb : b ≤ 1000) : World_ p q c := by
  have : (1000000 : Int) ≤ MN := by decide +kernel
  have := h.q0; have := h.q1; have := h.p1; have := h.p2; have := h.c1; have := h.c2
  exact ⟨by omega, by omega, by omega, by omega, h.co, by omega, by omega⟩
theorem near_ok (o : O) (ns : List Int) (cur j p q c : Int) (rest : Store) (h0 : 0 ≤ cur) (hj : 0 ≤ j) (w : Small p q c 12) (p1 : -1000 ≤ p) (p2 : p ≤ 1000) (c1 : -1000 ≤ c) (c2 : c ≤ 1000) :
    ∃ p' q' c' cur' j' rest', 0 ≤ cur' ∧ 0 ≤ j' ∧ F__law_near [.ref 2, wt p q c] (mk o ns cur j rest) = .ok (wt p' q' c') (mk o ns cur' j' rest') ∧ Small p' q' c' 25 := by
  have q0 := w.q0
  have q1 := w.q1
  obtain ⟨k, cu1, j1, k0, k1, a1, b1, e1⟩ := next_ok o ns cur j 5 rest h0 hj (by omega) (Bd.of 5 (by omega))
  by_cases g0 : k = 0
  · subst g0
    refine ⟨p, q, c, cu1, j1, rest, a1, b1, ?_, ⟨q0, by omega, w.co, w.p1, w.p2, w.c1, w.c2⟩⟩
    simp [F__law_near, b__law_near, List.replicate, wt, e1]
  · by_cases g1 : k = 1
    · subst g1
      obtain ⟨d, cu2, j2, d0, d1, a2, b2, e2⟩ := next_ok o ns cu1 j1 (2 * q + 1) rest a1 b1 (by omega) (Bd.of 100 (by omega))
      refine ⟨p, q, c + d - q, cu2, j2, rest, a2, b2, ?_, ⟨q0, by omega, w.co, w.p1, w.p2, by omega, by omega⟩⟩
      simp [F__law_near, b__law_near, List.replicate, wt, e1, dMul_l, e2]
    · obtain ⟨d, cu2, j2, d0, d1, a2, b2, e2⟩ := next_ok o ns cu1 j1 12 rest a1 b1 (by omega) (Bd.of 100 (by omega))
      obtain ⟨v, cu3, j3, mv, a3, b3, e3⟩ := pick_ok o ns cu2 j2 (rest ++ [.lst ([q, q + 1, 2 * q + 1, 1 + d].map D.int)]) rest.length [q, q + 1, 2 * q + 1, 1 + d] a2 b2 (end_get rest _) (by simp) (by simp)
      have wv : 1 ≤ v ∧ v ≤ 25 := by
        simp only [List.mem_cons, List.not_mem_nil, or_false] at mv
        omega
      generalize hr1 : rest ++ [O.lst ([q, q + 1, 2 * q + 1, 1 + d].map D.int)] = rest1 at e3
      obtain ⟨d4, cu4, j4, d40, d41, a4, b4, e4⟩ := next_ok o ns cu3 j3 2 rest1 a3 b3 (by omega) (Bd.of 100 (by omega))
      have bp : Bd p := Bd.of 1000 (by omega)
      have bv : Bd v := Bd.of 1000 (by omega)
      have bq : Bd q := Bd.of 1000 (by omega)
      have pv := abs_mul p1 p2 (show -25 ≤ v by omega) wv.2
      have qpv := quo_bd (c := p * v) q0 (b := 25000) (by omega) (by omega) (by omega)
      obtain ⟨t, bo, hlow, co, bo1, bo2, g, gg1, gg2, gg3⟩ := lowest_ok (mk o ns cu4 j4 rest1) (p * v / q + d4) v (by omega) (Int.lt_of_le_of_lt wv.2 (by decide +kernel))
      have tb : t.natAbs ≤ (p * v / q + d4).natAbs := by
        rw [gg2, Int.natAbs_mul]
        exact Nat.le_mul_of_pos_left _ (by omega)
      obtain ⟨d5, cu5, j5, d50, d51, a5, b5, e5⟩ := next_ok o ns cu4 j4 3 rest1 a4 b4 (by omega) (Bd.of 100 (by omega))
      have bc : Bd c := Bd.of 1000 (by omega)
      have bbo : Bd bo := Bd.of 1000 (by omega)
      have cbo := abs_mul c1 c2 (show -25 ≤ bo by omega) (show bo ≤ 25 by omega)
      have qcb := quo_bd (c := c * bo) q0 (b := 25000) (by omega) (by omega) (by omega)
      refine ⟨t, bo, c * bo / q + d5 - 1, cu5, j5, rest1, a5, b5, ?_, ⟨bo1, by omega, co, by omega, by omega, by omega, by omega⟩⟩
      simp only [List.map_cons, List.map_nil] at hr1
      simp [F__law_near, b__law_near, List.replicate, wt, e1, g0, g1, dMul_l, e2, mk_app, mk_len, hr1, e3, dMul_bd bp bv, dDiv_bd q0 bq, e4, hlow, dMul_bd bc bbo, e5]
end P58

set_option maxRecDepth 100000
set_option maxHeartbeats 4000000
set_option autoImplicit false
namespace P58
open PySem L2 EV M59 M58
theorem lcN_filter {gs : List (Nat × O)} {p : Pt} {t : EnvP → Store → R Bool} {f : Ev} {env0 : EnvP} {N : Nat} (κ : D → Bool) (g : D → D) : ∀ (ds : List D) (S : Store) (acc : List D), S[N]? = some (.lst acc) → acc.length + ds.length < LIM → (∀ a, Held gs (S.set N (.lst a))) →
    (∀ d ∈ ds, ∃ e1, p d env0 = some e1 ∧ ∀ a, t e1 (S.set N (.lst a)) = .ok (κ d) (S.set N (.lst a)) ∧ f e1 (S.set N (.lst a)) = .ok (g d) (S.set N (.lst a))) → lcN gs p t f env0 N ds S = .ok () (S.set N (.lst (acc ++ (ds.filter κ).map g)))
  | [], S, acc, hN, hl, hh, _ => by
    have e : S.set N (.lst acc) = S := by
      obtain ⟨h1, h2⟩ := List.getElem?_eq_some_iff.mp hN
      rw [← h2]
      exact List.set_getElem_self h1
    have := hh acc
    rw [e] at this
    unfold lcN
    rw [if_pos this, List.filter_nil, List.map_nil, List.append_nil, e]
  | d :: ds, S, acc, hN, hl, hh, hs => by
    have e : S.set N (.lst acc) = S := by
      obtain ⟨h1, h2⟩ := List.getElem?_eq_some_iff.mp hN
      rw [← h2]
      exact List.set_getElem_self h1
    have hd := hh acc
    rw [e] at hd
    obtain ⟨e1, h1, h2⟩ := hs d List.mem_cons_self
    obtain ⟨h3, h4⟩ := h2 acc
    rw [e] at h3 h4
    have hN' : N < S.length := (List.getElem?_eq_some_iff.mp hN).1
    unfold lcN
    rw [if_pos hd, h1]
    simp only [List.length_cons] at hl
    by_cases k : κ d = true
    · rw [k] at h3
      simp only [h3, h4, hN, if_true]
      rw [if_pos (by omega)]
      rw [lcN_filter κ g ds (S.set N (.lst (acc ++ [g d]))) (acc ++ [g d]) (List.getElem?_set_self hN') (by simp; omega) (fun a => by rw [List.set_set]; exact hh a) (fun x hx => by
        obtain ⟨e2, k1, k2⟩ := hs x (List.mem_cons_of_mem _ hx)
        exact ⟨e2, k1, fun a => by rw [List.set_set]; exact k2 a⟩), List.set_set, List.filter_cons_of_pos k]
      simp
    · have k' : κ d = false := by simpa using k
      rw [k'] at h3
      simp only [h3]
      rw [if_neg (by simp), List.filter_cons_of_neg k]
      exact lcN_filter κ g ds S acc hN (by omega) hh fun x hx => hs x (List.mem_cons_of_mem _ hx)
theorem fLc_filter {fi : Ei} {p : Pt} {t : EnvP → Store → R Bool} {f : Ev} {ws : List Nat} {env : EnvP} {S S1 : Store} {ds : List D} {gs : List (Nat × O)} (κ : D → Bool) (g : D → D) (hi : fi env S = .ok (ds, gs) S1) (hl : ds.length < LIM) (hh : ∀ a, Held gs (S1 ++ [.lst a]))
    (hs : ∀ d ∈ ds, ∃ e1, p d (wipeP env ws) = some e1 ∧ ∀ a, t e1 (S1 ++ [.lst a]) = .ok (κ d) (S1 ++ [.lst a]) ∧ f e1 (S1 ++ [.lst a]) = .ok (g d) (S1 ++ [.lst a])) : fLc fi p t f ws env S = .ok (.ref S1.length) (S1 ++ [.lst ((ds.filter κ).map g)]) := by
  have st : ∀ a : List D, (S1 ++ [O.lst []]).set S1.length (.lst a) = S1 ++ [.lst a] := fun a => by simp
  have h := lcN_filter (gs := gs) (p := p) (t := t) (f := f) (env0 := wipeP env ws) (N := S1.length) κ g ds (S1 ++ [.lst []]) [] (by simp) (by simpa using hl) (fun a => by rw [st]; exact hh a) (fun d hd => by
    obtain ⟨e1, a1, a2⟩ := hs d hd
    exact ⟨e1, a1, fun a => by rw [st]; exact a2 a⟩)
  unfold fLc
  rw [hi, R.bind_ok]
  dsimp only
  rw [h, st]
  rfl
/-- what stands first -/
theorem filt_none {P : Nat → Bool} : ∀ (n s : Nat), (∀ i, s ≤ i → i < s + n → P i = false) → (List.range' s n).filter P = []
  | 0, s, _ => rfl
  | n + 1, s, h => by
    rw [List.range'_succ, List.filter_cons_of_neg (by rw [h s (Nat.le_refl _) (by omega)]; simp)]
    exact filt_none n (s + 1) fun i h1 h2 => h i (by omega) (by omega)
theorem filt_first {P : Nat → Bool} {i0 : Nat} : ∀ (n s : Nat), s ≤ i0 → i0 < s + n → P i0 = true → (∀ i, s ≤ i → i < i0 → P i = false) → ∃ t, (List.range' s n).filter P = i0 :: t
  | 0, s, h1, h2, _, _ => by omega
  | n + 1, s, h1, h2, hp, h => by
    rw [List.range'_succ]
    by_cases e : s = i0
    · subst e
      rw [List.filter_cons_of_pos hp]
      exact ⟨_, rfl⟩
    · rw [List.filter_cons_of_neg (by rw [h s (Nat.le_refl _) (by omega)]; simp)]
      exact filt_first n (s + 1) (by omega) (by omega) hp fun i h3 h4 => h i (by omega) h4
/-- the events of a window that part, in the direction s -/
def pts (p q c p' q' c' s e0 : Int) : List Int := ((List.range 80).filter fun i : Nat => decide (¬ day p q c (e0 + s * i) = day p' q' c' (e0 + s * i))).map fun i : Nat => e0 + s * i
theorem pts_none {p q c p' q' c' s e0 : Int} (h : ∀ j, 0 ≤ j → j < 80 → day p q c (e0 + s * j) = day p' q' c' (e0 + s * j)) : pts p q c p' q' c' s e0 = [] := by
  unfold pts
  rw [List.range_eq_range', filt_none 80 0 fun i h1 h2 => by simp [h i (by omega) (by omega)]]
  rfl
theorem pts_first {p q c p' q' c' s e0 i0 : Int} (h0 : 0 ≤ i0) (h1 : i0 < 80) (h2 : day p q c (e0 + s * i0) ≠ day p' q' c' (e0 + s * i0)) (h : ∀ j, 0 ≤ j → j < i0 → day p q c (e0 + s * j) = day p' q' c' (e0 + s * j)) : ∃ t, pts p q c p' q' c' s e0 = (e0 + s * i0) :: t := by
  unfold pts
  have e : ((i0.toNat : Nat) : Int) = i0 := by omega
  obtain ⟨t, ht⟩ := filt_first (P := fun i : Nat => decide (¬ day p q c (e0 + s * i) = day p' q' c' (e0 + s * i))) (i0 := i0.toNat) 80 0 (by omega) (by omega) (by rw [e]; simp [h2]) (fun i h3 h4 => by simp [h i (by omega) (by omega)])
  rw [List.range_eq_range', ht, List.map_cons, e]
  exact ⟨_, rfl⟩
noncomputable abbrev farT := fNotB (fTru (fCall F__law_agree [] (fCons (fVar 1) (fCons (fVar 2) (fCons (fVar 9) fNil)))))
theorem far_ok (S : Store) (fi : Ei) (p q c p' q' c' s e0 : Int) (w : World_ p q c) (w' : World_ p' q' c') (hs : s = 1 ∨ s = -1) (b1 : -1000 ≤ e0) (b2 : e0 ≤ 1000) (x0 x3 x4 x5 x6 x7 x8 x9 : Option D) (hi : fi [x0, some (wt p q c), some (wt p' q' c'), x3, x4, x5, x6, x7, x8, x9] S = .ok (rngD e0 80 s, []) S) :
    fLc fi (ptName 9) farT (fVar 9) [9] [x0, some (wt p q c), some (wt p' q' c'), x3, x4, x5, x6, x7, x8, x9] S = .ok (.ref S.length) (S ++ [.lst ((pts p q c p' q' c' s e0).map D.int)]) := by
  have h := fLc_filter (fi := fi) (p := ptName 9) (t := farT) (f := fVar 9) (ws := [9]) (env := [x0, some (wt p q c), some (wt p' q' c'), x3, x4, x5, x6, x7, x8, x9]) (S := S) (S1 := S) (ds := rngD e0 80 s) (gs := []) (fun d => match d with
    | .int e => decide (¬ day p q c e = day p' q' c' e)
    | _ => false) id hi (by rw [rngD_len]; decide) (fun _ => held0 _) (fun d hd => by
    obtain ⟨i, hi⟩ := List.getElem?_of_mem hd
    obtain ⟨i1, rfl⟩ := rngD_at hi
    have be : Bd (e0 + (i : Int) * s) := Bd.of 2000 (by rcases hs with e | e <;> (subst e; omega))
    have q1 := w.q1
    have q2 := w'.q1
    have mp := mnp
    have ag := fun S => law_agree_ok S p q c p' q' c' (e0 + (i : Int) * s) (bd_mn w.p1 w.p2) (by omega) (bd_mn (by omega) w.q2) (bd_mn w'.p1 w'.p2) (by omega) (bd_mn (by omega) w'.q2) be
    refine ⟨_, rfl, fun a => ⟨?_, ?_⟩⟩
    · simp [wipeP, farT, ag]
    · simp [wipeP])
  rw [h, List.map_id]
  have e : (rngD e0 80 s).filter (fun d => match d with
    | .int e => decide (¬ day p q c e = day p' q' c' e)
    | _ => false) = (pts p q c p' q' c' s e0).map D.int := by
    unfold rngD pts
    rw [List.filter_map, List.map_map]
    have e2 : ∀ i : Nat, e0 + (i : Int) * s = e0 + s * i := fun i => by rw [Int.mul_comm]
    have e3 : ((fun i : Nat => D.int (e0 + (i : Int) * s)) : Nat → D) = (D.int ∘ fun i : Nat => e0 + s * i) := funext fun i => by simp [e2]
    rw [e3]
    congr 1
  rw [e]
theorem dEq_nil (S : Store) (n m : Nat) (is : List Int) (h1 : S[n]? = some (.lst (is.map D.int))) (h2 : S[m]? = some (.lst [])) : dEq (.ref n) (.ref m) S = .ok (.bl is.isEmpty) S := by
  have ok : D.okds (is.map D.int) = true := okds_map D.int is fun a _ => by simp [D.okd]
  have d1 : datS S (.ref n) = some (.list (D.dats (is.map D.int))) := by simp only [datS, h1, ok, if_true]
  have d2 : datS S (.ref m) = some (.list []) := by simp [datS, h2, D.okds, D.dats]
  have dp : ∀ is : List Int, PyData.depthAll (D.dats (is.map D.int)) = 0 := fun is => by
    induction is with
    | nil => simp [D.dats, PyData.depthAll]
    | cons a t ih => simp [D.dats, D.dat, PyData.depthAll, PyData.depth, ih]
  have dl : (PyData.list (D.dats (is.map D.int))).depth ≤ 64 := by simp only [PyData.depth, dp]; omega
  have dl2 : (PyData.list []).depth ≤ 64 := by simp [PyData.depth, PyData.depthAll]
  show dEqB id (.ref n) (.ref m) S = _
  unfold dEqB
  rw [d1, d2]
  dsimp only
  rw [if_pos ⟨dl, dl2⟩]
  cases is with
  | nil => simp [PyData.eqv, PyData.eqvAll, D.dats]
  | cons a t => simp [PyData.eqv, PyData.eqvAll, D.dats]
theorem dNe_bl (S : Store) (a b : Bool) : dNe (.bl a) (.bl b) S = .ok (.bl (a != b)) S := by
  show dEqB not (.bl a) (.bl b) S = _
  simp [dEqB, datS, D.okd, D.dat, PyData.depth, PyData.eqv]
  cases a <;> cases b <;> rfl
end P58

set_option maxRecDepth 100000
set_option maxHeartbeats 4000000
set_option autoImplicit false
namespace P58
open PySem L2 EV M59 M58
noncomputable def smB : Sv := (sSeq (sSet 4 (fBin dSub (fCall F__law_next [] (fCons (fVar 0) (fCons (fK (.int 61)) fNil))) (fK (.int 30))))
  (sSeq (sSet 5 (fBin dEq (fVar 1) (fVar 2)))
  (sSeq (sSet 6 (fLc (fiRng (fCons (fVar 4) (fCons (fBin dAdd (fVar 4) (fK (.int 80))) fNil))) (ptName 9) (fNotB (fTru (fCall F__law_agree [] (fCons (fVar 1) (fCons (fVar 2) (fCons (fVar 9) fNil)))))) (fVar 9) [9]))
  (sSeq (sIf (fOrB (fB (fBin dNe (fVar 5) (fBin dEq (fVar 6) (fLst fNil)))) (fNotB (fTru (fCall F__law_same [] (fCons (fCall F__law_run [] (fCons (fK (.str "parting")) (fCons (fVar 1) (fCons (fVar 2) (fCons (fVar 4) fNil))))) (fCons (fTup (fCons (fK (.str "answer")) (fCons (fIf (fTru (fVar 5)) (fK .non) (fBin dIx (fVar 6) (fK (.int 0)))) fNil))) fNil)))))) (sRet (fK (.bl false))) sNil)
  (sSeq (sSet 7 (fLc (fiDown (fCons (fVar 4) (fCons (fBin dSub (fVar 4) (fK (.int 80))) (fCons (fBin dSub (fK (.int 0)) (fK (.int 1))) fNil)))) (ptName 9) (fNotB (fTru (fCall F__law_agree [] (fCons (fVar 1) (fCons (fVar 2) (fCons (fVar 9) fNil)))))) (fVar 9) [9]))
  (sSeq (sSet 8 (fIf (fTru (fVar 5)) (fTup (fCons (fK .non) (fCons (fK .non) fNil))) (fIf (fB (fBin dEq (fBin dIx (fVar 6) (fK (.int 0))) (fVar 4))) (fK .non) (fTup (fCons (fBin dAdd (fBin dIx (fVar 7) (fK (.int 0))) (fK (.int 1))) (fCons (fBin dSub (fBin dIx (fVar 6) (fK (.int 0))) (fK (.int 1))) fNil))))))
  (sIf (fNotB (fTru (fCall F__law_same [] (fCons (fCall F__law_run [] (fCons (fK (.str "together")) (fCons (fVar 1) (fCons (fVar 2) (fCons (fVar 4) fNil))))) (fCons (fTup (fCons (fK (.str "answer")) (fCons (fVar 8) fNil))) fNil))))) (sRet (fK (.bl false))) sNil)))))))
theorem rng_down (fs : EnvP → Store → R (List D)) (env : EnvP) (S S1 : Store) (i j : Int) (h : fs env S = .ok [.int i, .int j, .int (-1)] S1) (h1 : -M62 ≤ i) (h2 : i < M62) (h3 : -M62 ≤ j) (h4 : j < M62) (k : Nat) (hk : (i - j).toNat = k) : fiDown fs env S = .ok (rngD i k (-1), []) S1 := by
  unfold fiDown
  rw [h, R.bind_ok]
  dsimp only
  rw [if_pos ⟨rfl, h1, h2, h3, h4⟩, hk]
theorem sml_of {i : Int} (h1 : -MN ≤ i) (h2 : i ≤ MN) : Sml i := by
  have m : MN.natAbs < 2 ^ 300 := by decide +kernel
  unfold Sml
  omega
theorem sml4 {i : Int} (h1 : -(10 * MN) ≤ i) (h2 : i ≤ 10 * MN) : Sml i := by
  have m : (10 * MN).natAbs < 2 ^ 300 := by decide +kernel
  unfold Sml
  omega
theorem small_step (o : O) (ns : List Int) (cur j p q c p' q' c' : Int) (rest : Store) (h0 : 0 ≤ cur) (hj : 0 ≤ j) (w0 : Small p q c 12) (w0' : Small p' q' c' 25) (x3 x4 x5 x6 x7 x8 x9 : Option D) :
    ∃ cur' j' rest' y4 y5 y6 y7 y8 y9, 0 ≤ cur' ∧ 0 ≤ j' ∧ smB [some (.ref 2), some (wt p q c), some (wt p' q' c'), x3, x4, x5, x6, x7, x8, x9] (mk o ns cur j rest) = .nx [some (.ref 2), some (wt p q c), some (wt p' q' c'), x3, y4, y5, y6, y7, y8, y9] (mk o ns cur' j' rest') := by
  have w := w0.world (by omega)
  have w' := w0'.world (by omega)
  obtain ⟨d, c1, j1, d0, d1, a1, b1, e1⟩ := next_ok o ns cur j 61 rest h0 hj (by omega) (Bd.of 100 (by omega))
  obtain ⟨e, he⟩ : ∃ e, e = d - 30 := ⟨_, rfl⟩
  generalize hS : mk o ns c1 j1 rest = S at e1
  have mp := mnp
  -- what is needed in the end
  suffices h : ∃ E y5 y6 y7 y8 y9, smB [some (.ref 2), some (wt p q c), some (wt p' q' c'), x3, x4, x5, x6, x7, x8, x9] (mk o ns cur j rest) = .nx [some (.ref 2), some (wt p q c), some (wt p' q' c'), x3, some (.int e), y5, y6, y7, y8, y9] (S ++ E) by
    obtain ⟨E, y5, y6, y7, y8, y9, h⟩ := h
    rw [← hS, mk_app] at h
    exact ⟨c1, j1, rest ++ E, _, y5, y6, y7, y8, y9, a1, b1, h⟩
  have heq := fun S => eq_wt S p q c p' q' c'
  have up : ∀ (S : Store) (x5 : Option D), fiRng (fCons (fVar 4) (fCons (fBin dAdd (fVar 4) (fK (.int 80))) fNil)) [some (.ref 2), some (wt p q c), some (wt p' q' c'), x3, some (.int e), x5, x6, x7, x8, x9] S = .ok (rngD e 80 1, []) S := fun S x5 => rng_two _ _ _ _ e (e + 80) (by simp) (by unfold M62; omega) (by unfold M62; omega) (by unfold M62; omega) (by unfold M62; omega) 80 (by omega)
  have down : ∀ (S : Store) (x5 x6 : Option D), fiDown (fCons (fVar 4) (fCons (fBin dSub (fVar 4) (fK (.int 80))) (fCons (fBin dSub (fK (.int 0)) (fK (.int 1))) fNil))) [some (.ref 2), some (wt p q c), some (wt p' q' c'), x3, some (.int e), x5, x6, x7, x8, x9] S = .ok (rngD e 80 (-1), []) S := fun S x5 x6 => by
    exact rng_down _ _ _ _ e (e - 80) (by simp) (by unfold M62; omega) (by unfold M62; omega) (by unfold M62; omega) (by unfold M62; omega) 80 (by omega)
  have fu := fun S x5 => far_ok S _ p q c p' q' c' 1 e w w' (.inl rfl) (by omega) (by omega) (some (.ref 2)) x3 (some (.int e)) x5 x6 x7 x8 x9 (up S x5)
  have fd := fun S x5 x6 => far_ok S _ p q c p' q' c' (-1) e w w' (.inr rfl) (by omega) (by omega) (some (.ref 2)) x3 (some (.int e)) x5 x6 x7 x8 x9 (down S x5 x6)
  simp only [farT] at fu fd
  by_cases hsame : p = p' ∧ q = q' ∧ c = c'
  · -- the same worlds
    have heq1 := fun S => heq S
    have hd : decide (p = p' ∧ q = q' ∧ c = c') = true := decide_eq_true hsame
    rw [hd] at heq1
    have ag : ∀ e, day p q c e = day p' q' c' e := fun e => by obtain ⟨rfl, rfl, rfl⟩ := hsame; rfl
    have pn : ∀ s, pts p q c p' q' c' s e = [] := fun s => pts_none fun j _ _ => ag _
    rw [pn] at fu fd
    have r1 := fun S => run_parting S _ _ _ _ [] (by rw [List.append_nil]; exact parting_same S p q c p' q' c' e w w' (by omega) (by omega) hsame)
    have r2 := fun S => run_together S _ _ _ _ [] (by rw [List.append_nil]; exact together_same S p q c p' q' c' e w w' (by omega) (by omega) hsame)
    have f1 := fu S (some (.bl true))
    generalize hS1 : S ++ [O.lst (([] : List Int).map D.int)] = S1 at f1
    have g1 : (S1 ++ [O.lst []])[S.length]? = some (.lst (([] : List Int).map D.int)) := keep_get _ (by rw [← hS1]; exact end_get S _)
    have g2 : (S1 ++ [O.lst []])[S1.length]? = some (.lst []) := end_get S1 _
    have en := dEq_nil _ _ _ [] g1 g2
    generalize hS2 : S1 ++ [O.lst []] = S2 at en g1
    obtain ⟨E3, h3⟩ := same_non S2
    simp only [ans] at h3
    have f2 := fd (S2 ++ E3) (some (.bl true)) (some (.ref S.length))
    generalize hS4 : S2 ++ E3 ++ [O.lst (([] : List Int).map D.int)] = S4 at f2
    obtain ⟨E5, h5⟩ := same_nons S4
    simp only [ans] at h5
    obtain ⟨E, hE⟩ : ∃ E, S4 ++ E5 = S ++ E := ⟨[O.lst (([] : List Int).map D.int)] ++ [O.lst []] ++ E3 ++ [O.lst (([] : List Int).map D.int)] ++ E5, by rw [← hS4, ← hS2, ← hS1]; simp only [List.append_assoc]⟩
    refine ⟨E, some (.bl true), some (.ref S.length), some (.ref (S2 ++ E3).length), some (.tup [.non, .non]), x9, ?_⟩
    rw [← hE]
    simp only [List.append_nil] at r1 r2
    simp [smB, e1, ← he, heq1, f1, hS2, en, dNe_bl, r1, h3, f2, r2, h5]
  · have hd : decide (p = p' ∧ q = q' ∧ c = c') = false := decide_eq_false hsame
    have heq1 := fun S => heq S
    rw [hd] at heq1
    by_cases hday : day p q c e = day p' q' c' e
    · obtain ⟨L, rL, bL⟩ := reach_ex w w' hsame 1 e (.inl rfl) hday
      obtain ⟨B, rB, bB⟩ := reach_ex w w' hsame (-1) e (.inr rfl) hday
      have l0 := rL.L0
      have lb := rB.L0
      have q1 := w0.q1
      have q2 := w0'.q1
      obtain ⟨t, ht⟩ := pts_first (s := 1) (e0 := e) (i0 := L + 1) (by omega) (by omega) rL.out fun j a b => rL.all j a (by omega)
      obtain ⟨t', ht'⟩ := pts_first (s := -1) (e0 := e) (i0 := B + 1) (by omega) (by omega) rB.out fun j a b => rB.all j a (by omega)
      obtain ⟨a0, ha0⟩ : ∃ a0, a0 = e + 1 * (L + 1) := ⟨_, rfl⟩
      obtain ⟨b0, hb0⟩ : ∃ b0, b0 = e + -1 * (B + 1) := ⟨_, rfl⟩
      rw [← ha0] at ht
      rw [← hb0] at ht'
      rw [ht] at fu
      rw [ht'] at fd
      have f1 := fu S (some (.bl false))
      generalize hS1 : S ++ [O.lst ((a0 :: t).map D.int)] = S1 at f1
      have g0 : S1[S.length]? = some (.lst ((a0 :: t).map D.int)) := by rw [← hS1]; exact end_get S _
      have g1 : (S1 ++ [O.lst []])[S.length]? = some (.lst ((a0 :: t).map D.int)) := keep_get _ g0
      have g2 : (S1 ++ [O.lst []])[S1.length]? = some (.lst []) := end_get S1 _
      have en := dEq_nil _ _ _ (a0 :: t) g1 g2
      generalize hS2 : S1 ++ [O.lst []] = S2 at en g1
      obtain ⟨E2, r1⟩ := parting_later S2 p q c p' q' c' e w w' (by omega) (by omega) hsame L (by omega) rL
      rw [show e + L + 1 = a0 by omega] at r1
      have r1 := run_parting S2 _ _ _ _ _ r1
      have g3 : (S2 ++ E2)[S.length]? = some (.lst ((a0 :: t).map D.int)) := keep_get _ g1
      generalize hS3 : S2 ++ E2 = S3 at r1 g3
      obtain ⟨E3, h3⟩ := same_int S3 a0 (sml_of (by omega) (by omega))
      simp only [ans] at h3
      have g4 : (S3 ++ E3)[S.length]? = some (.lst ((a0 :: t).map D.int)) := keep_get _ g3
      have f2 := fd (S3 ++ E3) (some (.bl false)) (some (.ref S.length))
      have g5 : (S3 ++ E3 ++ [O.lst ((b0 :: t').map D.int)])[(S3 ++ E3).length]? = some (.lst ((b0 :: t').map D.int)) := end_get _ _
      have g6 : (S3 ++ E3 ++ [O.lst ((b0 :: t').map D.int)])[S.length]? = some (.lst ((a0 :: t).map D.int)) := keep_get _ g4
      generalize hS4 : S3 ++ E3 ++ [O.lst ((b0 :: t').map D.int)] = S4 at f2 g5 g6
      generalize hn : (S3 ++ E3).length = n at f2 g5
      obtain ⟨E4, r2⟩ := together_later S4 p q c p' q' c' e w w' (by omega) (by omega) hsame L B (by omega) rL (by omega) rB
      rw [show e - B = b0 + 1 by omega, show e + L = a0 - 1 by omega] at r2
      have r2 := run_together S4 _ _ _ _ _ r2
      generalize hS5 : S4 ++ E4 = S5 at r2
      obtain ⟨E5, h5⟩ := same_ints S5 (b0 + 1) (a0 - 1) (sml_of (by omega) (by omega)) (sml_of (by omega) (by omega))
      simp only [ans] at h5
      obtain ⟨E, hE⟩ : ∃ E, S5 ++ E5 = S ++ E := ⟨[O.lst ((a0 :: t).map D.int)] ++ [O.lst []] ++ E2 ++ E3 ++ [O.lst ((b0 :: t').map D.int)] ++ E4 ++ E5, by rw [← hS5, ← hS4, ← hS3, ← hS2, ← hS1]; simp only [List.append_assoc]⟩
      refine ⟨E, some (.bl false), some (.ref S.length), some (.ref n), some (.tup [.int (b0 + 1), .int (a0 - 1)]), x9, ?_⟩
      rw [← hE]
      have na : ¬ a0 = e := by omega
      simp only [List.isEmpty_cons] at en
      have i0 : ∀ (a : Int) (t : List Int), ((a :: t).map D.int)[0]? = some (.int a) := fun a t => rfl
      simp [smB, e1, ← he, heq1, f1, hS2, en, dNe_bl, r1, dIx_ref g3, i0, h3, f2, dIx_ref g6, dIx_ref g5, na, r2, h5, -List.map_cons]
    · obtain ⟨t, ht⟩ := pts_first (p := p) (q := q) (c := c) (p' := p') (q' := q') (c' := c') (s := 1) (e0 := e) (i0 := 0) (by omega) (by omega) (by rw [show e + 1 * (0 : Int) = e by omega]; exact hday) fun j a b => by omega
      obtain ⟨t', ht'⟩ := pts_first (p := p) (q := q) (c := c) (p' := p') (q' := q') (c' := c') (s := -1) (e0 := e) (i0 := 0) (by omega) (by omega) (by rw [show e + -1 * (0 : Int) = e by omega]; exact hday) fun j a b => by omega
      rw [show e + 1 * (0 : Int) = e by omega] at ht
      rw [show e + -1 * (0 : Int) = e by omega] at ht'
      rw [ht] at fu
      rw [ht'] at fd
      have f1 := fu S (some (.bl false))
      generalize hS1 : S ++ [O.lst ((e :: t).map D.int)] = S1 at f1
      have g0 : S1[S.length]? = some (.lst ((e :: t).map D.int)) := by rw [← hS1]; exact end_get S _
      have g1 : (S1 ++ [O.lst []])[S.length]? = some (.lst ((e :: t).map D.int)) := keep_get _ g0
      have g2 : (S1 ++ [O.lst []])[S1.length]? = some (.lst []) := end_get S1 _
      have en := dEq_nil _ _ _ (e :: t) g1 g2
      generalize hS2 : S1 ++ [O.lst []] = S2 at en g1
      have r1 := run_parting S2 _ _ _ _ [] (by rw [List.append_nil]; exact parting_now S2 p q c p' q' c' e w w' (by omega) (by omega) hsame hday)
      rw [List.append_nil] at r1
      obtain ⟨E3, h3⟩ := same_int S2 e (sml_of (by omega) (by omega))
      simp only [ans] at h3
      have g4 : (S2 ++ E3)[S.length]? = some (.lst ((e :: t).map D.int)) := keep_get _ g1
      have f2 := fd (S2 ++ E3) (some (.bl false)) (some (.ref S.length))
      have g6 : (S2 ++ E3 ++ [O.lst ((e :: t').map D.int)])[S.length]? = some (.lst ((e :: t).map D.int)) := keep_get _ g4
      generalize hS4 : S2 ++ E3 ++ [O.lst ((e :: t').map D.int)] = S4 at f2 g6
      generalize hn : (S2 ++ E3).length = n at f2
      have r2 := run_together S4 _ _ _ _ [] (by rw [List.append_nil]; exact together_now S4 p q c p' q' c' e w w' (by omega) (by omega) hsame hday)
      rw [List.append_nil] at r2
      obtain ⟨E5, h5⟩ := same_non S4
      simp only [ans] at h5
      obtain ⟨E, hE⟩ : ∃ E, S4 ++ E5 = S ++ E := ⟨[O.lst ((e :: t).map D.int)] ++ [O.lst []] ++ E3 ++ [O.lst ((e :: t').map D.int)] ++ E5, by rw [← hS4, ← hS2, ← hS1]; simp only [List.append_assoc]⟩
      refine ⟨E, some (.bl false), some (.ref S.length), some (.ref n), some .non, x9, ?_⟩
      rw [← hE]
      simp only [List.isEmpty_cons] at en
      have i0 : ∀ (a : Int) (t : List Int), ((a :: t).map D.int)[0]? = some (.int a) := fun a t => rfl
      simp [smB, e1, ← he, heq1, f1, hS2, en, dNe_bl, r1, dIx_ref g1, i0, h3, f2, dIx_ref g6, r2, h5, -List.map_cons]
end P58

set_option maxRecDepth 100000
set_option maxHeartbeats 4000000
set_option autoImplicit false
namespace P58
open PySem L2 EV M59 M58
noncomputable def tailG : Sv := (sSeq (sSet 8 (fCall F__law_run [] (fCons (fK (.str "together")) (fCons (fVar 3) (fCons (fVar 7) (fCons (fVar 5) fNil))))))
  (sSeq (sIf (fOrB (fB (fBin dNe (fBin dIx (fVar 8) (fK (.int 0))) (fK (.str "answer")))) (fNotB (fTru (fCall F__law_plain [] (fCons (fBin dIx (fVar 8) (fK (.int 1))) fNil))))) (sRet (fK (.bl false))) sNil)
  (sSeq (sIf (fNotB (fTru (fCall F__law_agree [] (fCons (fVar 3) (fCons (fVar 7) (fCons (fVar 5) fNil)))))) (sRet (fAnd (fBin dIsN (fBin dIx (fVar 8) (fK (.int 1))) (fK .non)) (fCall F__law_same [] (fCons (fCall F__law_run [] (fCons (fK (.str "parting")) (fCons (fVar 3) (fCons (fVar 7) (fCons (fVar 5) fNil))))) (fCons (fTup (fCons (fK (.str "answer")) (fCons (fVar 5) fNil))) fNil))))) sNil)
  (sSeq (sIf (fOrB (fNotB (fTru (fCB cIsi (fCons (fBin dIx (fVar 8) (fK (.int 1))) (fCons (fK (.ty "tuple")) fNil))))) (fOrB (fB (fBin dNe (fCB cLen (fCons (fBin dIx (fVar 8) (fK (.int 1))) fNil)) (fK (.int 2)))) (fNotB (fTru (fCB cAll (fCons (fLc (fiSeq (fBin dIx (fVar 8) (fK (.int 1)))) (ptName 13) tYesB (fCall F__law_is_integer [] (fCons (fVar 13) fNil)) [13]) fNil)))))) (sRet (fK (.bl false))) sNil)
  (sSeq (sAsg (ptTup 2 (ptCons (ptName 11) (ptCons (ptName 12) ptNil))) (fBin dIx (fVar 8) (fK (.int 1))))
  (sSeq (sIf (fOrB (fNotB (fB (fChain dLeI dLeI (fVar 11) (fVar 5) (fVar 12)))) (fOrB (fTru (fCall F__law_agree [] (fCons (fVar 3) (fCons (fVar 7) (fCons (fBin dSub (fVar 11) (fK (.int 1))) fNil))))) (fTru (fCall F__law_agree [] (fCons (fVar 3) (fCons (fVar 7) (fCons (fBin dAdd (fVar 12) (fK (.int 1))) fNil))))))) (sRet (fK (.bl false))) sNil)
  (sSeq (sFor (fiRng (fCons (fK (.int 12)) fNil)) (ptName 9) (sIf (fNotB (fTru (fCall F__law_agree [] (fCons (fVar 3) (fCons (fVar 7) (fCons (fBin dAdd (fVar 11) (fBin dDiv (fBin dMul (fBin dSub (fVar 12) (fVar 11)) (fVar 9)) (fK (.int 11)))) fNil)))))) (sRet (fK (.bl false))) sNil))
  (sSeq (sIf (fB (fBin dGtI (fBin dAdd (fBin dSub (fVar 12) (fVar 11)) (fK (.int 1))) (fBin dSub (fBin dAdd (fBin dIx (fVar 3) (fK (.int 1))) (fBin dIx (fVar 7) (fK (.int 1)))) (fCall F__law_divisor [] (fCons (fBin dIx (fVar 3) (fK (.int 1))) (fCons (fBin dIx (fVar 7) (fK (.int 1))) fNil)))))) (sRet (fK (.bl false))) sNil)
  (sRet (fCall F__law_same [] (fCons (fCall F__law_run [] (fCons (fK (.str "parting")) (fCons (fVar 3) (fCons (fVar 7) (fCons (fVar 5) fNil))))) (fCons (fTup (fCons (fK (.str "answer")) (fCons (fBin dAdd (fVar 12) (fK (.int 1))) fNil))) fNil))))))))))))
noncomputable def atB : Sv := (sIf (fNotB (fTru (fCall F__law_agree [] (fCons (fVar 3) (fCons (fVar 7) (fCons (fBin dAdd (fVar 11) (fBin dDiv (fBin dMul (fBin dSub (fVar 12) (fVar 11)) (fVar 9)) (fK (.int 11)))) fNil)))))) (sRet (fK (.bl false))) sNil)
theorem ints2 (S : Store) (i j : Int) (x0 x1 x2 x3 x4 x5 x6 x7 x9 x10 x11 x12 x13 : Option D) : fLc (fiSeq (fBin dIx (fVar 8) (fK (.int 1)))) (ptName 13) tYesB (fCall F__law_is_integer [] (fCons (fVar 13) fNil)) [13] [x0, x1, x2, x3, x4, x5, x6, x7, some (ans (.tup [.int i, .int j])), x9, x10, x11, x12, x13] S = .ok (.ref S.length) (S ++ [.lst [.bl true, .bl true]]) := by
  have h := fLc_map (fi := fiSeq (fBin dIx (fVar 8) (fK (.int 1)))) (p := ptName 13) (t := tYesB) (f := fCall F__law_is_integer [] (fCons (fVar 13) fNil)) (ws := [13]) (env := [x0, x1, x2, x3, x4, x5, x6, x7, some (ans (.tup [.int i, .int j])), x9, x10, x11, x12, x13]) (S := S) (S1 := S) (ds := [.int i, .int j]) (gs := []) (fun _ => .bl true) (by simp [fiSeq, ans, itSeq]) (by simp [LIM]) (fun _ => held0 _) (fun d hd => by
    refine ⟨_, rfl, fun a => ⟨rfl, ?_⟩⟩
    simp only [List.mem_cons, List.not_mem_nil, or_false] at hd
    rcases hd with e | e <;> (subst e; simp [wipeP]))
  exact h
theorem at_loop (S : Store) (p q c k l st first last : Int) (w : World_ p q c) (w' : World_ k l st) (hf : first ≤ last) (hl : last - first ≤ 4 * MN) (hf1 : -(3 * MN) ≤ first) (hf2 : last ≤ 3 * MN) (ag : ∀ e, first ≤ e → e ≤ last → day p q c e = day k l st e) (x0 x1 x2 x4 x5 x6 x8 x9 x10 x13 : Option D) :
    ∃ y9, forL [] (ptName 9) atB (rngD 0 12 1) [x0, x1, x2, some (wt p q c), x4, x5, x6, some (wt k l st), x8, x9, x10, some (.int first), some (.int last), x13] S = .nx [x0, x1, x2, some (wt p q c), x4, x5, x6, some (wt k l st), x8, y9, x10, some (.int first), some (.int last), x13] S := by
  have q1 := w.q1
  have q2 := w'.q1
  have mp := mnp
  have b3 : Bd (3 * MN) := Bd.of (3 * 10 ^ 60) (by decide +kernel)
  obtain ⟨e', S', g1, g2, g3⟩ := forL_inv (gs := []) (p := ptName 9) (b := atB) (fun i e S' => (∃ y9, e = [x0, x1, x2, some (wt p q c), x4, x5, x6, some (wt k l st), x8, y9, x10, some (.int first), some (.int last), x13]) ∧ S' = S) (rngD 0 12 1) 0 (fun i d e S' hi ⟨⟨y9, h1⟩, h2⟩ => by
    subst h1; subst h2
    obtain ⟨i1, rfl⟩ := rngD_at hi
    refine ⟨held0 _, ?_⟩
    rw [show (0 : Int) + (i : Int) * 1 = (i : Int) by omega]
    have hx : 0 ≤ (last - first) * i / 11 ∧ (last - first) * i / 11 ≤ last - first := by
      have := Int.mul_nonneg (show 0 ≤ last - first by omega) (show (0 : Int) ≤ i by omega)
      have := mul_le (show 0 ≤ last - first by omega) (show (i : Int) ≤ 11 by omega)
      omega
    have a1 := law_agree_ok S' p q c k l st (first + (last - first) * i / 11) (bd_mn w.p1 w.p2) (by omega) (bd_mn (by omega) w.q2) (bd_mn w'.p1 w'.p2) (by omega) (bd_mn (by omega) w'.q2) (bd_of b3 (by omega) (by omega))
    rw [decide_eq_true (ag _ (by omega) (by omega))] at a1
    refine ⟨_, [x0, x1, x2, some (wt p q c), x4, x5, x6, some (wt k l st), x8, some (.int i), x10, some (.int first), some (.int last), x13], S', rfl, .inl ?_, ⟨_, rfl⟩, rfl⟩
    have iv : ((i : Int)).natAbs < 18446744073709551616 := by omega
    simp [atB, dMul_r iv, dDiv_bd (show (0 : Int) < 11 by omega) (Bd.of 11 (by omega)), a1]) (fun e S' _ => held0 _) _ _ ⟨⟨x9, rfl⟩, rfl⟩
  obtain ⟨y9, g2⟩ := g2
  subst g2; subst g3
  exact ⟨y9, g1⟩
theorem gcd_ql {p q k l : Int} (h : p * l = 1 + q * k) : Int.gcd q l = 1 := by
  have d1 := Int.gcd_dvd_left q l
  have d2 := Int.gcd_dvd_right q l
  have d3 : (Int.gcd q l : Int) ∣ 1 := by
    have a : (Int.gcd q l : Int) ∣ p * l := Int.dvd_mul_of_dvd_right d2
    have b : (Int.gcd q l : Int) ∣ q * k := Int.dvd_mul_of_dvd_left d1
    have := Int.dvd_sub a b
    rwa [show p * l - q * k = 1 by omega] at this
  have := Int.le_of_dvd (by omega) d3
  have n0 : Int.gcd q l ≠ 0 := fun z => by
    rw [z] at d3
    have := Int.zero_dvd.mp d3
    omega
  omega
theorem gcd_kl {p q k l : Int} (h : p * l = 1 + q * k) : Int.gcd k l = 1 := by
  have : Int.gcd k l = 1 := gcd_ql (p := p) (q := k) (k := q) (l := l) (by rw [h, Int.mul_comm k q])
  exact this
theorem unlike {p q k l c st : Int} (h : p * l = 1 + q * k) : ¬ (p = k ∧ q = l ∧ c = st) := by
  rintro ⟨rfl, rfl, _⟩
  rw [Int.mul_comm q p] at h
  omega
theorem tailG_ok (S : Store) (p q c k l st e : Int) (w : World_ p q c) (w' : World_ k l st) (hpl : p * l = 1 + q * k) (e0 : 0 ≤ e) (e1 : e ≤ 1000000000) (x0 x1 x2 x4 x6 x8 x9 x10 x11 x12 x13 : Option D) :
    ∃ E, tailG [x0, x1, x2, some (wt p q c), x4, some (.int e), x6, some (wt k l st), x8, x9, x10, x11, x12, x13] S = .rt (.bl true) (S ++ E) := by
  have hne := unlike (c := c) (st := st) hpl
  have q1 := w.q1
  have l1 := w'.q1
  have q2 := w.q2
  have l2 := w'.q2
  have mp := mnp
  have b3 : Bd (4 * MN) := Bd.of (4 * 10 ^ 60) (by decide +kernel)
  have big : (10000000000 : Int) ≤ MN := by decide +kernel
  have agk := fun S e (h1 : -(4 * MN) ≤ e) (h2 : e ≤ 4 * MN) => law_agree_ok S p q c k l st e (bd_mn w.p1 w.p2) (by omega) (bd_mn (by omega) w.q2) (bd_mn w'.p1 w'.p2) (by omega) (bd_mn (by omega) w'.q2) (bd_of b3 h1 h2)
  have i0 : ∀ v S, dIx (ans v) (.int 0) S = .ok (.str "answer") S := fun v S => by simp [ans]
  have i1 : ∀ v S, dIx (ans v) (.int 1) S = .ok v S := fun v S => by simp [ans]
  by_cases hday : day p q c e = day k l st e
  · obtain ⟨L, rL, bL⟩ := reach_ex w w' hne 1 e (.inl rfl) hday
    obtain ⟨B, rB, bB⟩ := reach_ex w w' hne (-1) e (.inr rfl) hday
    have L0 := rL.L0
    have B0 := rB.L0
    obtain ⟨E1, r1⟩ := together_later S p q c k l st e w w' (by omega) (by omega) hne L B (by omega) rL (by omega) rB
    have r1 := run_together S _ _ _ _ _ r1
    generalize hS1 : S ++ E1 = S1 at r1
    obtain ⟨first, hfirst⟩ : ∃ f, f = e - B := ⟨_, rfl⟩
    obtain ⟨last, hlast⟩ : ∃ f, f = e + L := ⟨_, rfl⟩
    rw [← hfirst, ← hlast] at r1
    have r1 : F__law_run [.str "together", wt p q c, wt k l st, .int e] S = .ok (ans (.tup [.int first, .int last])) S1 := r1
    obtain ⟨E2, h2⟩ := plain_ok S1 (.tup [.int first, .int last]) (by simp [pln, plns]) (by simp [siz, sizs])
    generalize hS2 : S1 ++ E2 = S2 at h2
    have a1 := agk S2 e (by omega) (by omega)
    rw [decide_eq_true hday] at a1
    have i2 := ints2 S2 first last x0 x1 x2 (some (wt p q c)) x4 (some (.int e)) x6 (some (wt k l st)) x9 x10 x11 x12 x13
    have g2 : cAll [.ref S2.length] (S2 ++ [.lst [.bl true, .bl true]]) = .ok (.bl true) (S2 ++ [.lst [.bl true, .bl true]]) := by simp [cAll, blsOf]
    generalize hS3 : S2 ++ [O.lst [.bl true, .bl true]] = S3 at i2 g2
    have ag : ∀ x, first ≤ x → x ≤ last → day p q c x = day k l st x := fun x h1 h2 => by
      rcases Int.le_total e x with g | g
      · have := rL.all (x - e) (by omega) (by omega)
        rwa [show e + 1 * (x - e) = x by omega] at this
      · have := rB.all (e - x) (by omega) (by omega)
        rwa [show e + -1 * (e - x) = x by omega] at this
    have o1 : day p q c (first - 1) ≠ day k l st (first - 1) := by
      have := rB.out
      rwa [show e + -1 * (B + 1) = first - 1 by omega] at this
    have o2 : day p q c (last + 1) ≠ day k l st (last + 1) := by
      have := rL.out
      rwa [show e + 1 * (L + 1) = last + 1 by omega] at this
    have a2 := agk S3 (first - 1) (by omega) (by omega)
    rw [decide_eq_false o1] at a2
    have a3 := agk S3 (last + 1) (by omega) (by omega)
    rw [decide_eq_false o2] at a3
    obtain ⟨y9, hlo⟩ := at_loop S3 p q c k l st first last w w' (by omega) (by omega) (by omega) (by omega) ag x0 x1 x2 x4 (some (.int e)) x6 (some (ans (.tup [.int first, .int last]))) x9 x10 x13
    have hf := sFor_ok (fiRng (fCons (fK (.int 12)) fNil)) (ptName 9) atB [x0, x1, x2, some (wt p q c), x4, some (.int e), x6, some (wt k l st), some (ans (.tup [.int first, .int last])), x9, x10, some (.int first), some (.int last), x13] S3 S3 (rngD 0 12 1, []) (rng_tail _ _ _ _ 12 (by simp) (by unfold M62; omega) (by unfold M62; omega) 12 (by omega))
    rw [hlo] at hf
    have dv := divisor_ok S3 q l (by omega) (Int.lt_of_le_of_lt l2 (by decide +kernel))
    rw [gcd_ql hpl] at dv
    have wlen : ¬ (q + l - 1 < last - first + 1) := fun z => by
      obtain ⟨x, z1, z2, z3⟩ := part_in w.wd w'.wd hne first
      exact z3 (ag x z1 (by omega))
    obtain ⟨E4, r4⟩ := parting_later S3 p q c k l st e w w' (by omega) (by omega) hne L (by omega) rL
    rw [← hlast] at r4
    have r4 := run_parting S3 _ _ _ _ _ r4
    generalize hS4 : S3 ++ E4 = S4 at r4
    obtain ⟨E5, h5⟩ := same_int S4 (last + 1) (sml4 (by omega) (by omega))
    simp only [ans] at h5
    obtain ⟨E, hE⟩ : ∃ E, S4 ++ E5 = S ++ E := ⟨E1 ++ E2 ++ [O.lst [.bl true, .bl true]] ++ E4 ++ E5, by rw [← hS4, ← hS3, ← hS2, ← hS1]; simp only [List.append_assoc]⟩
    refine ⟨E, ?_⟩
    rw [← hE]
    have t1 : ∀ S, cIsi [.tup [.int first, .int last], .ty "tuple"] S = .ok (.bl true) S := fun _ => rfl
    have fe : first ≤ e := by omega
    have el : e ≤ last := by omega
    have eb : (sIf (fNotB (fTru (fCall F__law_agree [] (fCons (fVar 3) (fCons (fVar 7) (fCons (fBin dAdd (fVar 11) (fBin dDiv (fBin dMul (fBin dSub (fVar 12) (fVar 11)) (fVar 9)) (fK (.int 11)))) fNil)))))) (sRet (fK (.bl false))) sNil) = atB := rfl
    have w0 : ∀ (p q c : Int) S, dIx (wt p q c) (.int 1) S = .ok (.int q) S := fun p q c S => by simp [wt]
    simp only [tailG, eb]
    have dv' : ((1 : Nat) : Int) = 1 := rfl
    rw [dv'] at dv
    simp [r1, i0, i1, h2, a1, t1, i2, g2, fe, el, a2, a3, hf, w0, dv, wlen, r4, h5]
  · have r1 := run_together S _ _ _ _ [] (by rw [List.append_nil]; exact together_now S p q c k l st e w w' (by omega) (by omega) hne hday)
    rw [List.append_nil] at r1
    have r1 : F__law_run [.str "together", wt p q c, wt k l st, .int e] S = .ok (ans .non) S := r1
    obtain ⟨E2, h2⟩ := plain_ok S .non (by simp [pln]) (by simp [siz])
    generalize hS2 : S ++ E2 = S2 at h2
    have a1 := agk S2 e (by omega) (by omega)
    rw [decide_eq_false hday] at a1
    have r4 := run_parting S2 _ _ _ _ [] (by rw [List.append_nil]; exact parting_now S2 p q c k l st e w w' (by omega) (by omega) hne hday)
    rw [List.append_nil] at r4
    obtain ⟨E5, h5⟩ := same_int S2 e (sml4 (by omega) (by omega))
    simp only [ans] at h5
    obtain ⟨E, hE⟩ : ∃ E, S2 ++ E5 = S ++ E := ⟨E2 ++ E5, by rw [← hS2]; simp only [List.append_assoc]⟩
    refine ⟨E, ?_⟩
    rw [← hE]
    simp [tailG, r1, i0, i1, h2, a1, r4, h5]
end P58

set_option maxRecDepth 100000
set_option maxHeartbeats 4000000
set_option autoImplicit false
namespace P58
open PySem L2 EV M59 M58
theorem great_ok (o : O) (ns : List Int) (cur j : Int) (rest : Store) (h0 : 0 ≤ cur) (hj : 0 ≤ j) :
    ∃ cur' j' rest', 0 ≤ cur' ∧ 0 ≤ j' ∧ F__law_great_holds [.ref 2] (mk o ns cur j rest) = .ok (.bl true) (mk o ns cur' j' rest') := by
  obtain ⟨v1, c1, j1, m1, a1, b1, e1⟩ := pick_ok o ns cur j (rest ++ [.lst ([1000000000, 1000000000000000, 1000000000000000000000000000].map D.int)]) rest.length [1000000000, 1000000000000000, 1000000000000000000000000000] h0 hj (end_get rest _) (by simp) (by simp)
  generalize hr1 : rest ++ [O.lst ([1000000000, 1000000000000000, 1000000000000000000000000000].map D.int)] = rest1 at e1
  have w1 : 1000000000 ≤ v1 ∧ v1 ≤ 1000000000000000000000000000 := by
    simp only [List.mem_cons, List.not_mem_nil, or_false] at m1
    omega
  obtain ⟨d2, c2, j2, x2, y2, a2, b2, e2⟩ := next_ok o ns c1 j1 1000000000 rest1 a1 b1 (by omega) (Bd.of 1000000000 (by omega))
  obtain ⟨q0, hq0⟩ : ∃ q0, q0 = v1 + d2 := ⟨_, rfl⟩
  obtain ⟨d3, c3, j3, x3, y3, a3, b3, e3⟩ := next_ok o ns c2 j2 1000000000 rest1 a2 b2 (by omega) (Bd.of 1000000000 (by omega))
  obtain ⟨d4, c4, j4, x4, y4, a4, b4, e4⟩ := next_ok o ns c3 j3 100000000 rest1 a3 b3 (by omega) (Bd.of 100000000 (by omega))
  obtain ⟨p, q, hlow, co, q1, q2, g, g1, g2, g3⟩ := lowest_ok (mk o ns c4 j4 rest1) (d3 * 100000000 + d4 + 1) q0 (by omega) (Int.lt_of_le_of_lt (show q0 ≤ 10000000000000000000000000000 by omega) (by decide +kernel))
  have mn : (1000000000000000000000000000000000000000000000000000000000000 : Int) = MN := rfl
  have pb : p.natAbs ≤ (d3 * 100000000 + d4 + 1).natAbs := by
    rw [g2, Int.natAbs_mul]
    exact Nat.le_mul_of_pos_left _ (by omega)
  have p1 : -MN ≤ p := by omega
  have p2 : p ≤ MN := by omega
  have qm : q ≤ MN := by omega
  obtain ⟨l, k, hinv, hpl, l0, l1⟩ : ∃ l k, (if 1 < q then F__law_inverse [.int p, .int q] (mk o ns c4 j4 rest1) = .ok (.int l) (mk o ns c4 j4 rest1) else l = 1) ∧ p * l = 1 + q * k ∧ 0 < l ∧ l ≤ q := by
    by_cases z : 1 < q
    · obtain ⟨l, k, h1, h2, h3, h4⟩ := law_inverse_ok (mk o ns c4 j4 rest1) p q z qm co
      exact ⟨l, k, by rw [if_pos z]; exact h1, h2, h3, by omega⟩
    · have : q = 1 := by omega
      subst this
      exact ⟨1, p - 1, by rw [if_neg (by omega)], by omega, by omega, by omega⟩
  have bp : Bd p := bd_mn p1 p2
  have bq : Bd q := bd_mn (by omega) qm
  have bl : Bd l := bd_mn (by omega) (by omega)
  have hk : (p * l - 1) / q = k := by
    rw [hpl, show 1 + q * k - 1 = q * k by omega]
    exact Int.mul_ediv_cancel_left _ (by omega)
  -- the start
  obtain ⟨c, c5, j5, x5, y5, a5, b5, e5⟩ : ∃ c c5 j5, 0 ≤ c ∧ c < 1000000000000000000 ∧ 0 ≤ c5 ∧ 0 ≤ j5 ∧ (if q < 1000000000000000000 then F__law_next [.ref 2, .int q] (mk o ns c4 j4 rest1) = .ok (.int c) (mk o ns c5 j5 rest1) else F__law_next [.ref 2, .int 1000000000000000000] (mk o ns c4 j4 rest1) = .ok (.int c) (mk o ns c5 j5 rest1)) := by
    by_cases z : q < 1000000000000000000
    · obtain ⟨d, c5, j5, h1, h2, h3, h4, h5⟩ := next_ok o ns c4 j4 q rest1 a4 b4 q1 bq
      exact ⟨d, c5, j5, h1, by omega, h3, h4, by rw [if_pos z]; exact h5⟩
    · obtain ⟨d, c5, j5, h1, h2, h3, h4, h5⟩ := next_ok o ns c4 j4 1000000000000000000 rest1 a4 b4 (by omega) (Bd.of 1000000000000000000 (by omega))
      exact ⟨d, c5, j5, h1, h2, h3, h4, by rw [if_neg z]; exact h5⟩
  obtain ⟨e, c6, j6, x6, y6, a6, b6, e6⟩ := next_ok o ns c5 j5 1000000000 rest1 a5 b5 (by omega) (Bd.of 1000000000 (by omega))
  obtain ⟨d7, c7, j7, x7, y7, a7, b7, e7⟩ := next_ok o ns c6 j6 1000000 rest1 a6 b6 (by omega) (Bd.of 1000000 (by omega))
  have be : Bd e := bd_mn (by omega) (by omega)
  have hd := law_day_ok (mk o ns c6 j6 rest1) p q c e bp q1 bq be
  have pe := abs_mul p1 p2 (show -1000000000 ≤ e by omega) (show e ≤ 1000000000 by omega)
  have qd := quo_bd (c := p * e + c) q1 (b := MN * 1000000000 + 1000000000000000000) (by omega) (by omega) (by omega)
  have bday : Bd (day p q c e) := bd_of (Bd.of (1000000000000000000000000000000000000000000000000000000000000 * 1000000000 + 1000000000000000000) (by decide +kernel) : Bd (MN * 1000000000 + 1000000000000000000)) qd.1 qd.2
  have kk : -MN ≤ k ∧ k ≤ MN := by
    have pl := abs_mul (A := 1000000000000000000) (B := q) (show -1000000000000000000 ≤ p by omega) (show p ≤ 1000000000000000000 by omega) (show -q ≤ l by omega) l1
    constructor
    · rcases Int.lt_or_le k (-10000000000000000000) with z | z
      · have := mul_le (show 0 ≤ q by omega) (show k ≤ -10000000000000000000 by omega)
        omega
      · omega
    · rcases Int.lt_or_le 10000000000000000000 k with z | z
      · have := mul_le (show 0 ≤ q by omega) (show 10000000000000000000 ≤ k by omega)
        omega
      · omega
  have bk : Bd k := bd_mn kk.1 kk.2
  obtain ⟨st, hst⟩ : ∃ st, st = day p q c e * l - k * e + d7 := ⟨_, rfl⟩
  have w : World_ p q c := ⟨p1, p2, q1, qm, co, by omega, by omega⟩
  have i1 := law_is_world_ok (mk o ns c7 j7 rest1) p q c true ⟨fun _ => w, fun _ => rfl⟩
  rw [mk_app] at i1
  generalize hr2 : rest1 ++ [O.lst [.bl true, .bl true, .bl true]] = rest2 at i1
  obtain ⟨b, hb⟩ : ∃ b : Bool, b = true ↔ World_ k l st := by
    by_cases z : World_ k l st
    · exact ⟨true, fun _ => z, fun _ => rfl⟩
    · exact ⟨false, fun h => (nomatch h), fun h => absurd h z⟩
  have i2 := law_is_world_ok (mk o ns c7 j7 rest2) k l st b hb
  rw [mk_app] at i2
  generalize hr3 : rest2 ++ [O.lst [.bl true, .bl true, .bl true]] = rest3 at i2
  have eb : (sSeq (sSet 8 (fCall F__law_run [] (fCons (fK (.str "together")) (fCons (fVar 3) (fCons (fVar 7) (fCons (fVar 5) fNil))))))
  (sSeq (sIf (fOrB (fB (fBin dNe (fBin dIx (fVar 8) (fK (.int 0))) (fK (.str "answer")))) (fNotB (fTru (fCall F__law_plain [] (fCons (fBin dIx (fVar 8) (fK (.int 1))) fNil))))) (sRet (fK (.bl false))) sNil)
  (sSeq (sIf (fNotB (fTru (fCall F__law_agree [] (fCons (fVar 3) (fCons (fVar 7) (fCons (fVar 5) fNil)))))) (sRet (fAnd (fBin dIsN (fBin dIx (fVar 8) (fK (.int 1))) (fK .non)) (fCall F__law_same [] (fCons (fCall F__law_run [] (fCons (fK (.str "parting")) (fCons (fVar 3) (fCons (fVar 7) (fCons (fVar 5) fNil))))) (fCons (fTup (fCons (fK (.str "answer")) (fCons (fVar 5) fNil))) fNil))))) sNil)
  (sSeq (sIf (fOrB (fNotB (fTru (fCB cIsi (fCons (fBin dIx (fVar 8) (fK (.int 1))) (fCons (fK (.ty "tuple")) fNil))))) (fOrB (fB (fBin dNe (fCB cLen (fCons (fBin dIx (fVar 8) (fK (.int 1))) fNil)) (fK (.int 2)))) (fNotB (fTru (fCB cAll (fCons (fLc (fiSeq (fBin dIx (fVar 8) (fK (.int 1)))) (ptName 13) tYesB (fCall F__law_is_integer [] (fCons (fVar 13) fNil)) [13]) fNil)))))) (sRet (fK (.bl false))) sNil)
  (sSeq (sAsg (ptTup 2 (ptCons (ptName 11) (ptCons (ptName 12) ptNil))) (fBin dIx (fVar 8) (fK (.int 1))))
  (sSeq (sIf (fOrB (fNotB (fB (fChain dLeI dLeI (fVar 11) (fVar 5) (fVar 12)))) (fOrB (fTru (fCall F__law_agree [] (fCons (fVar 3) (fCons (fVar 7) (fCons (fBin dSub (fVar 11) (fK (.int 1))) fNil))))) (fTru (fCall F__law_agree [] (fCons (fVar 3) (fCons (fVar 7) (fCons (fBin dAdd (fVar 12) (fK (.int 1))) fNil))))))) (sRet (fK (.bl false))) sNil)
  (sSeq (sFor (fiRng (fCons (fK (.int 12)) fNil)) (ptName 9) (sIf (fNotB (fTru (fCall F__law_agree [] (fCons (fVar 3) (fCons (fVar 7) (fCons (fBin dAdd (fVar 11) (fBin dDiv (fBin dMul (fBin dSub (fVar 12) (fVar 11)) (fVar 9)) (fK (.int 11)))) fNil)))))) (sRet (fK (.bl false))) sNil))
  (sSeq (sIf (fB (fBin dGtI (fBin dAdd (fBin dSub (fVar 12) (fVar 11)) (fK (.int 1))) (fBin dSub (fBin dAdd (fBin dIx (fVar 3) (fK (.int 1))) (fBin dIx (fVar 7) (fK (.int 1)))) (fCall F__law_divisor [] (fCons (fBin dIx (fVar 3) (fK (.int 1))) (fCons (fBin dIx (fVar 7) (fK (.int 1))) fNil)))))) (sRet (fK (.bl false))) sNil)
  (sRet (fCall F__law_same [] (fCons (fCall F__law_run [] (fCons (fK (.str "parting")) (fCons (fVar 3) (fCons (fVar 7) (fCons (fVar 5) fNil))))) (fCons (fTup (fCons (fK (.str "answer")) (fCons (fBin dAdd (fVar 12) (fK (.int 1))) fNil))) fNil)))))))))))) = tailG := rfl
  have wtp : ∀ p q c : Int, D.tup [.int p, .int q, .int c] = wt p q c := fun _ _ _ => rfl
  have nl : ¬ l < 1 := by omega
  simp only [List.map_cons, List.map_nil] at hr1
  cases b with
  | false =>
    refine ⟨c7, j7, rest3, a7, b7, ?_⟩
    simp only [F__law_great_holds, b__law_great_holds, eb]
    by_cases z1 : 1 < q
    · rw [if_pos z1] at hinv
      by_cases z2 : q < 1000000000000000000
      · rw [if_pos z2] at e5
        simp [List.replicate, mk_app, mk_len, hr1, e1, e2, ← hq0, e3, dMul_r, e4, hlow, z1, hinv, z2, e5, dMul_bd bp bl, dDiv_bd q1 bq, hk, e6, wtp, hd, dMul_bd bday bl, dMul_bd bk be, e7, ← hst, nl, i1, i2]
      · rw [if_neg z2] at e5
        simp [List.replicate, mk_app, mk_len, hr1, e1, e2, ← hq0, e3, dMul_r, e4, hlow, z1, hinv, z2, e5, dMul_bd bp bl, dDiv_bd q1 bq, hk, e6, wtp, hd, dMul_bd bday bl, dMul_bd bk be, e7, ← hst, nl, i1, i2]
    · rw [if_neg z1] at hinv
      have z2 : q < 1000000000000000000 := by omega
      rw [if_pos z2] at e5
      subst hinv
      simp [List.replicate, mk_app, mk_len, hr1, e1, e2, ← hq0, e3, dMul_r, e4, hlow, z1, z2, e5]
      simp only [Int.mul_one] at hk hst
      simp [dDiv_bd q1 bq, hk, e6, wtp, hd, dMul_bd bday bl, dMul_bd bk be, e7, ← hst, i1, i2]
  | true =>
    have w' := hb.mp rfl
    obtain ⟨E, ht⟩ := tailG_ok (mk o ns c7 j7 rest3) p q c k l st e w w' hpl (by omega) (by omega) (some (.ref 2)) (some (.int q)) (some (.int l)) (some (.tup [.int k, .int l])) (some (.int st)) none none (some (.int p)) none none none
    rw [mk_app] at ht
    refine ⟨c7, j7, rest3 ++ E, a7, b7, ?_⟩
    simp only [F__law_great_holds, b__law_great_holds, eb]
    by_cases z1 : 1 < q
    · rw [if_pos z1] at hinv
      by_cases z2 : q < 1000000000000000000
      · rw [if_pos z2] at e5
        simp [List.replicate, mk_app, mk_len, hr1, e1, e2, ← hq0, e3, dMul_r, e4, hlow, z1, hinv, z2, e5, dMul_bd bp bl, dDiv_bd q1 bq, hk, e6, wtp, hd, dMul_bd bday bl, dMul_bd bk be, e7, ← hst, nl, i1, i2, ht]
      · rw [if_neg z2] at e5
        simp [List.replicate, mk_app, mk_len, hr1, e1, e2, ← hq0, e3, dMul_r, e4, hlow, z1, hinv, z2, e5, dMul_bd bp bl, dDiv_bd q1 bq, hk, e6, wtp, hd, dMul_bd bday bl, dMul_bd bk be, e7, ← hst, nl, i1, i2, ht]
    · rw [if_neg z1] at hinv
      have z2 : q < 1000000000000000000 := by omega
      rw [if_pos z2] at e5
      subst hinv
      simp [List.replicate, mk_app, mk_len, hr1, e1, e2, ← hq0, e3, dMul_r, e4, hlow, z1, z2, e5]
      simp only [Int.mul_one] at hk hst
      simp [dDiv_bd q1 bq, hk, e6, wtp, hd, dMul_bd bday bl, dMul_bd bk be, e7, ← hst, i1, i2, ht]
end P58

set_option maxRecDepth 100000
set_option maxHeartbeats 4000000
set_option autoImplicit false
namespace P58
open PySem L2 EV M59 M58
theorem world_okS (o : O) (ns : List Int) (cur j size : Int) (rest : Store) (h0 : 0 ≤ cur) (hj : 0 ≤ j) (s0 : 0 < size) (s1 : size ≤ 12) :
    ∃ p q c cur' j', 0 ≤ cur' ∧ 0 ≤ j' ∧ F__law_world [.ref 2, .int size, .int 2] (mk o ns cur j rest) = .ok (wt p q c) (mk o ns cur' j' rest) ∧ Int.gcd p q = 1 ∧ 0 < q ∧ q ≤ 12 ∧ -1000 ≤ p ∧ p ≤ 1000 ∧ -1000 ≤ c ∧ c ≤ 1000 := by
  obtain ⟨d1, c1, j1, a1, a2, a3, a4, e1⟩ := next_ok o ns cur j size rest h0 hj s0 (Bd.of 1000 (by omega))
  generalize hq : 1 + d1 = q0
  obtain ⟨d2, c2, j2, b1, b2, b3, b4, e2⟩ := next_ok o ns c1 j1 (2 * 2 * q0 + 1) rest a3 a4 (by omega) (Bd.of 10000 (by omega))
  obtain ⟨p, q, hlow, co, q1, q2, g, g1, g2, g3⟩ := lowest_ok (mk o ns c2 j2 rest) (d2 - 2 * q0) q0 (by omega) (Int.lt_of_le_of_lt (show q0 ≤ 1001 by omega) (by decide +kernel))
  obtain ⟨d3, c3, j3, f1, f2, f3, f4, e3⟩ := next_ok o ns c2 j2 (8 * q + 1) rest b3 b4 (by omega) (Bd.of 10000 (by omega))
  have pb : p.natAbs ≤ (d2 - 2 * q0).natAbs := by
    rw [g2, Int.natAbs_mul]
    exact Nat.le_mul_of_pos_left _ (by omega)
  refine ⟨p, q, d3 - 4 * q, c3, j3, f3, f4, ?_, co, q1, by omega, by omega, by omega, by omega, by omega⟩
  simp only [Int.reduceMul] at e2
  simp [wt, F__law_world, b__law_world, List.replicate, e1, hq, dMul_l, e2, hlow, e3]
theorem neigh_ok (o : O) (ns : List Int) (cur j : Int) (rest : Store) (h0 : 0 ≤ cur) (hj : 0 ≤ j) :
    ∃ S', F__law_neighbours_hold [.ref 2] (mk o ns cur j rest) = .ok (.bl true) S' := by
  obtain ⟨v1, c1, j1, m1, a1, b1, e1⟩ := pick_ok o ns cur j (rest ++ [.lst ([9, 1000000, 1000000000000000000000000000].map D.int)]) rest.length [9, 1000000, 1000000000000000000000000000] h0 hj (end_get rest _) (by simp) (by simp)
  generalize hr1 : rest ++ [O.lst ([9, 1000000, 1000000000000000000000000000].map D.int)] = rest1 at e1
  have w1 : 9 ≤ v1 ∧ v1 ≤ 1000000000000000000000000000 := by
    simp only [List.mem_cons, List.not_mem_nil, or_false] at m1
    omega
  obtain ⟨d2, c2, j2, x2, y2, a2, b2, e2⟩ := next_ok o ns c1 j1 v1 rest1 a1 b1 (by omega) (Bd.of 1000000000000000000000000000 (by omega))
  obtain ⟨q0, hq0⟩ : ∃ q0, q0 = 2 + d2 := ⟨_, rfl⟩
  obtain ⟨d3, c3, j3, x3, y3, a3, b3, e3⟩ := next_ok o ns c2 j2 1000000000000000 rest1 a2 b2 (by omega) (Bd.of 1000000000000000 (by omega))
  obtain ⟨d4, c4, j4, x4, y4, a4, b4, e4⟩ := next_ok o ns c3 j3 1000000 rest1 a3 b3 (by omega) (Bd.of 1000000 (by omega))
  obtain ⟨p, q, hlow, co, q1, q2, g, g1, g2, g3⟩ := lowest_ok (mk o ns c4 j4 rest1) (d3 * 1000000 + d4) q0 (by omega) (Int.lt_of_le_of_lt (show q0 ≤ 10000000000000000000000000000 by omega) (by decide +kernel))
  have mn : (1000000000000000000000000000000000000000000000000000000000000 : Int) = MN := rfl
  have pb : p.natAbs ≤ (d3 * 1000000 + d4).natAbs := by
    rw [g2, Int.natAbs_mul]
    exact Nat.le_mul_of_pos_left _ (by omega)
  have qm : q ≤ MN := by omega
  have bp : Bd p := bd_mn (by omega) (by omega)
  have bq : Bd q := bd_mn (by omega) qm
  simp only [List.map_cons, List.map_nil] at hr1
  by_cases z : q = 1
  · refine ⟨mk o ns c4 j4 rest1, ?_⟩
    subst z
    simp [F__law_neighbours_hold, b__law_neighbours_hold, List.replicate, mk_app, mk_len, hr1, e1, e2, ← hq0, e3, dMul_r, e4, hlow]
  · generalize hS : mk o ns c4 j4 rest1 = S at hlow e4
    obtain ⟨l, k, hinv, hpl, l0, l1⟩ := law_inverse_ok S p q (by omega) qm co
    have bl : Bd l := bd_mn (by omega) (by omega)
    have hk : (p * l - 1) / q = k := by
      rw [hpl, show 1 + q * k - 1 = q * k by omega]
      exact Int.mul_ediv_cancel_left _ (by omega)
    have kk : -100000000000000000000000000 ≤ k ∧ k ≤ 100000000000000000000000000 := by
      have pl := abs_mul (A := 10000000000000000000000000) (B := q) (show -10000000000000000000000000 ≤ p by omega) (show p ≤ 10000000000000000000000000 by omega) (show -q ≤ l by omega) (show l ≤ q by omega)
      constructor
      · rcases Int.lt_or_le k (-100000000000000000000000000) with z | z
        · have := mul_le (show 0 ≤ q by omega) (show k ≤ -100000000000000000000000000 by omega)
          omega
        · omega
      · rcases Int.lt_or_le 100000000000000000000000000 k with z | z
        · have := mul_le (show 0 ≤ q by omega) (show 100000000000000000000000000 ≤ k by omega)
          omega
        · omega
    have w : World_ p q 0 := ⟨by omega, by omega, by omega, qm, co, by omega, by omega⟩
    have w' : World_ k l 0 := ⟨by omega, by omega, by omega, by omega, gcd_kl hpl, by omega, by omega⟩
    obtain ⟨nb1, nb2, nb3⟩ := neighbours q1 l0 hpl
    have rU : Reach k l 0 p q 0 1 0 (q - 1) := ⟨by omega, fun j a b => by rw [show 0 + 1 * j = j by omega]; exact nb1 j (by omega) (by omega), by rw [show 0 + 1 * (q - 1 + 1) = q by omega]; exact nb2⟩
    have rD : Reach k l 0 p q 0 (-1) 0 (l - 1) := ⟨by omega, fun j a b => by rw [show 0 + -1 * j = -j by omega]; exact nb1 (-j) (by omega) (by omega), by rw [show 0 + -1 * (l - 1 + 1) = -l by omega]; exact nb3⟩
    have sw : ∀ {s L : Int}, Reach k l 0 p q 0 s 0 L → Reach p q 0 k l 0 s 0 L := fun r => ⟨r.L0, fun j a b => (r.all j a b).symm, fun h => r.out h.symm⟩
    have hne' := unlike (c := 0) (st := 0) hpl
    have hne : ¬ (k = p ∧ l = q ∧ (0 : Int) = 0) := fun h => hne' ⟨h.1.symm, h.2.1.symm, rfl⟩
    obtain ⟨E1, r1⟩ := together_later S k l 0 p q 0 0 w' w (by omega) (by omega) hne (q - 1) (l - 1) (by omega) rU (by omega) rD
    rw [show (0 : Int) - (l - 1) = 1 - l by omega, show (0 : Int) + (q - 1) = q - 1 by omega] at r1
    have r1 := run_together S _ _ _ _ _ r1
    generalize hS1 : S ++ E1 = S1 at r1
    obtain ⟨E2, h2⟩ := same_ints S1 (1 - l) (q - 1) (sml4 (by omega) (by omega)) (sml4 (by omega) (by omega))
    generalize hS2 : S1 ++ E2 = S2 at h2
    obtain ⟨E3, r3⟩ := together_later S2 p q 0 k l 0 0 w w' (by omega) (by omega) hne' (q - 1) (l - 1) (by omega) (sw rU) (by omega) (sw rD)
    rw [show (0 : Int) - (l - 1) = 1 - l by omega, show (0 : Int) + (q - 1) = q - 1 by omega] at r3
    have r3 := run_together S2 _ _ _ _ _ r3
    generalize hS3 : S2 ++ E3 = S3 at r3
    obtain ⟨E4, h4⟩ := same_ints S3 (1 - l) (q - 1) (sml4 (by omega) (by omega)) (sml4 (by omega) (by omega))
    generalize hS4 : S3 ++ E4 = S4 at h4
    obtain ⟨E5, r5⟩ := parting_later S4 k l 0 p q 0 0 w' w (by omega) (by omega) hne (q - 1) (by omega) rU
    rw [show (0 : Int) + (q - 1) + 1 = q by omega] at r5
    have r5 := run_parting S4 _ _ _ _ _ r5
    generalize hS5 : S4 ++ E5 = S5 at r5
    obtain ⟨E6, h6⟩ := same_int S5 q (sml4 (by omega) (by omega))
    simp only [ans] at h2 h4 h6
    refine ⟨S5 ++ E6, ?_⟩
    have wtp : ∀ p q c : Int, D.tup [.int p, .int q, .int c] = wt p q c := fun _ _ _ => rfl
    simp [F__law_neighbours_hold, b__law_neighbours_hold, List.replicate, mk_app, mk_len, hr1, e1, e2, ← hq0, e3, dMul_r, e4, hlow, z, hinv, dMul_bd bp bl, dDiv_bd q1 bq, hk, wtp, r1, h2, r3, h4, r5, h6]
theorem small_ok (o : O) (ns : List Int) (cur j : Int) (rest : Store) (h0 : 0 ≤ cur) (hj : 0 ≤ j) :
    ∃ cur' j' rest', 0 ≤ cur' ∧ 0 ≤ j' ∧ F__law_small_holds [.ref 2] (mk o ns cur j rest) = .ok (.bl true) (mk o ns cur' j' rest') := by
  obtain ⟨v1, c1, j1, m1, a1, b1, e1⟩ := pick_ok o ns cur j (rest ++ [.lst ([1, 4, 12].map D.int)]) rest.length [1, 4, 12] h0 hj (end_get rest _) (by simp) (by simp)
  generalize hr1 : rest ++ [O.lst ([1, 4, 12].map D.int)] = rest1 at e1
  have w1 : 1 ≤ v1 ∧ v1 ≤ 12 := by
    simp only [List.mem_cons, List.not_mem_nil, or_false] at m1
    omega
  obtain ⟨p, q, c, c2, j2, a2, b2, e2, co, q0, q1, p1, p2, cc1, cc2⟩ := world_okS o ns c1 j1 v1 rest1 a1 b1 (by omega) (by omega)
  obtain ⟨p', q', c', c3, j3, r3, a3, b3, e3, sm'⟩ := near_ok o ns c2 j2 p q c rest1 a2 b2 ⟨q0, q1, co, by omega, by omega, by omega, by omega⟩ (by omega) (by omega) (by omega) (by omega)
  obtain ⟨e', S', g1, ⟨y3, y4, y5, y6, y7, y8, y9, g2⟩, cu, jj, rr, k1, k2, g3⟩ := forL_inv (gs := []) (p := ptName 3) (b := smB) (fun i e S => (∃ x3 x4 x5 x6 x7 x8 x9, e = [some (.ref 2), some (wt p q c), some (wt p' q' c'), x3, x4, x5, x6, x7, x8, x9]) ∧ ∃ cur j rest, 0 ≤ cur ∧ 0 ≤ j ∧ S = mk o ns cur j rest) (rngD 0 3 1) 0 (fun i d e S hi ⟨⟨x3, x4, x5, x6, x7, x8, x9, he⟩, cur, j, rest, h1, h2, hS⟩ => by
    subst he; subst hS
    obtain ⟨cur', j', rest', y4, y5, y6, y7, y8, y9, k1, k2, k3⟩ := small_step o ns cur j p q c p' q' c' rest h1 h2 ⟨q0, q1, co, by omega, by omega, by omega, by omega⟩ sm' (some d) x4 x5 x6 x7 x8 x9
    exact ⟨held0 _, _, _, _, rfl, .inl k3, ⟨_, _, _, _, _, _, _, rfl⟩, cur', j', rest', k1, k2, rfl⟩) (fun e S _ => held0 _) [some (.ref 2), some (wt p q c), some (wt p' q' c'), none, none, none, none, none, none, none] (mk o ns c3 j3 r3) ⟨⟨_, _, _, _, _, _, _, rfl⟩, c3, j3, r3, a3, b3, rfl⟩
  subst g2; subst g3
  have hf := sFor_ok (fiRng (fCons (fK (.int 3)) fNil)) (ptName 3) smB [some (.ref 2), some (wt p q c), some (wt p' q' c'), none, none, none, none, none, none, none] (mk o ns c3 j3 r3) (mk o ns c3 j3 r3) (rngD 0 3 1, []) (rng_tail _ _ _ _ 3 (by simp) (by unfold M62; omega) (by unfold M62; omega) 3 (by omega))
  rw [g1] at hf
  have eb : (sSeq (sSet 4 (fBin dSub (fCall F__law_next [] (fCons (fVar 0) (fCons (fK (.int 61)) fNil))) (fK (.int 30))))
  (sSeq (sSet 5 (fBin dEq (fVar 1) (fVar 2)))
  (sSeq (sSet 6 (fLc (fiRng (fCons (fVar 4) (fCons (fBin dAdd (fVar 4) (fK (.int 80))) fNil))) (ptName 9) (fNotB (fTru (fCall F__law_agree [] (fCons (fVar 1) (fCons (fVar 2) (fCons (fVar 9) fNil)))))) (fVar 9) [9]))
  (sSeq (sIf (fOrB (fB (fBin dNe (fVar 5) (fBin dEq (fVar 6) (fLst fNil)))) (fNotB (fTru (fCall F__law_same [] (fCons (fCall F__law_run [] (fCons (fK (.str "parting")) (fCons (fVar 1) (fCons (fVar 2) (fCons (fVar 4) fNil))))) (fCons (fTup (fCons (fK (.str "answer")) (fCons (fIf (fTru (fVar 5)) (fK .non) (fBin dIx (fVar 6) (fK (.int 0)))) fNil))) fNil)))))) (sRet (fK (.bl false))) sNil)
  (sSeq (sSet 7 (fLc (fiDown (fCons (fVar 4) (fCons (fBin dSub (fVar 4) (fK (.int 80))) (fCons (fBin dSub (fK (.int 0)) (fK (.int 1))) fNil)))) (ptName 9) (fNotB (fTru (fCall F__law_agree [] (fCons (fVar 1) (fCons (fVar 2) (fCons (fVar 9) fNil)))))) (fVar 9) [9]))
  (sSeq (sSet 8 (fIf (fTru (fVar 5)) (fTup (fCons (fK .non) (fCons (fK .non) fNil))) (fIf (fB (fBin dEq (fBin dIx (fVar 6) (fK (.int 0))) (fVar 4))) (fK .non) (fTup (fCons (fBin dAdd (fBin dIx (fVar 7) (fK (.int 0))) (fK (.int 1))) (fCons (fBin dSub (fBin dIx (fVar 6) (fK (.int 0))) (fK (.int 1))) fNil))))))
  (sIf (fNotB (fTru (fCall F__law_same [] (fCons (fCall F__law_run [] (fCons (fK (.str "together")) (fCons (fVar 1) (fCons (fVar 2) (fCons (fVar 4) fNil))))) (fCons (fTup (fCons (fK (.str "answer")) (fCons (fVar 8) fNil))) fNil))))) (sRet (fK (.bl false))) sNil))))))) = smB := rfl
  refine ⟨cu, jj, rr, k1, k2, ?_⟩
  simp only [List.map_cons, List.map_nil] at hr1
  simp only [F__law_small_holds, b__law_small_holds, eb]
  simp [List.replicate, mk_app, mk_len, hr1, e1, e2, e3, hf]
theorem plain : ∀ ns : List Int, ns.length ≤ 63 → ∃ S', F_law [.ref 0] (scrS ns) = .ok (.bl true) S' := by
  intro ns hns
  have h0 := stream_ok ns
  obtain ⟨e', S', g1, ⟨y2, g2⟩, cu, jj, rr, k1, k2, g3⟩ := forL_inv (gs := []) (p := ptName 2) (b := (sIf (fNotB (fTru (fCall F__law_small_holds [] (fCons (fVar 1) fNil)))) (sRet (fK (.bl false))) sNil)) (fun i e S => (∃ x2, e = [some (.ref 0), some (.ref 2), x2]) ∧ ∃ cur j rest, 0 ≤ cur ∧ 0 ≤ j ∧ S = mk (.scr (ns.map D.int)) ns cur j rest) (rngD 0 4 1) 0 (fun i d e S hi ⟨⟨x2, he⟩, cur, j, rest, h1, h2, hS⟩ => by
    subst he; subst hS
    obtain ⟨cur', j', rest', k1, k2, k3⟩ := small_ok (.scr (ns.map D.int)) ns cur j rest h1 h2
    refine ⟨held0 _, _, [some (.ref 0), some (.ref 2), some d], mk (.scr (ns.map D.int)) ns cur' j' rest', rfl, .inl ?_, ⟨_, rfl⟩, cur', j', rest', k1, k2, rfl⟩
    simp [k3]) (fun e S _ => held0 _) [some (.ref 0), some (.ref 2), none] (mk (.scr (ns.map D.int)) ns 0 0 []) ⟨⟨_, rfl⟩, 0, 0, [], by omega, by omega, rfl⟩
  subst g2; subst g3
  obtain ⟨c2, j2, r2, a2, b2, e2⟩ := great_ok (.scr (ns.map D.int)) ns cu jj rr k1 k2
  obtain ⟨c3, j3, r3, a3, b3, e3⟩ := great_ok (.scr (ns.map D.int)) ns c2 j2 r2 a2 b2
  obtain ⟨S4, e4⟩ := neigh_ok (.scr (ns.map D.int)) ns c3 j3 r3 a3 b3
  have hf := sFor_ok (fiRng (fCons (fK (.int 4)) fNil)) (ptName 2) (sIf (fNotB (fTru (fCall F__law_small_holds [] (fCons (fVar 1) fNil)))) (sRet (fK (.bl false))) sNil) [some (.ref 0), some (.ref 2), none] (mk (.scr (ns.map D.int)) ns 0 0 []) (mk (.scr (ns.map D.int)) ns 0 0 []) (rngD 0 4 1, []) (rng_tail _ _ _ _ 4 (by simp) (by unfold M62; omega) (by unfold M62; omega) 4 (by omega))
  rw [g1] at hf
  refine ⟨S4, ?_⟩
  simp only [F_law, b_law]
  simp [List.replicate, h0, hf, e2, e3, e4]
end P58

set_option maxRecDepth 100000
set_option maxHeartbeats 0
namespace P58
open PySem PySem.Spec PyProof.Rows L2 EV
def d__law_stream : He.DefD := ⟨("_law_stream", none), "_law_stream", "_law_stream", defArgs (top 28), defBody (top 28), defScope (top 28), [], []⟩
def d__law_divisor : He.DefD := ⟨("_law_divisor", none), "_law_divisor", "_law_divisor", defArgs (top 34), defBody (top 34), defScope (top 34), [], []⟩
def d__law_lowest : He.DefD := ⟨("_law_lowest", none), "_law_lowest", "_law_lowest", defArgs (top 35), defBody (top 35), defScope (top 35), [], []⟩
def d__law_next : He.DefD := ⟨("_law_next", none), "_law_next", "_law_next", defArgs (top 29), defBody (top 29), defScope (top 29), [], []⟩
def d_is_tuple_of : He.DefD := ⟨("is_tuple_of", none), "is_tuple_of", "is_tuple_of", defArgs (top 6), defBody (top 6), defScope (top 6), [], []⟩
def d_is_integer : He.DefD := ⟨("is_integer", none), "is_integer", "is_integer", defArgs (top 4), defBody (top 4), defScope (top 4), [], []⟩
def d_is_from_to : He.DefD := ⟨("is_from_to", none), "is_from_to", "is_from_to", defArgs (top 5), defBody (top 5), defScope (top 5), [], []⟩
def d_common_divisor : He.DefD := ⟨("common_divisor", none), "common_divisor", "common_divisor", defArgs (top 10), defBody (top 10), defScope (top 10), [], []⟩
def d_is_fraction : He.DefD := ⟨("is_fraction", none), "is_fraction", "is_fraction", defArgs (top 11), defBody (top 11), defScope (top 11), [], []⟩
def d_is_world : He.DefD := ⟨("is_world", none), "is_world", "is_world", defArgs (top 14), defBody (top 14), defScope (top 14), [], []⟩
def d_check_world : He.DefD := ⟨("check_world", none), "check_world", "check_world", defArgs (top 15), defBody (top 15), defScope (top 15), [.str "world"], []⟩
def d_check_worlds : He.DefD := ⟨("check_worlds", none), "check_worlds", "check_worlds", defArgs (top 24), defBody (top 24), defScope (top 24), [], []⟩
def d_check_from_to : He.DefD := ⟨("check_from_to", none), "check_from_to", "check_from_to", defArgs (top 7), defBody (top 7), defScope (top 7), [], []⟩
def d_check_event : He.DefD := ⟨("check_event", none), "check_event", "check_event", defArgs (top 16), defBody (top 16), defScope (top 16), [.str "event"], []⟩
def d_day_among : He.DefD := ⟨("day_among", none), "day_among", "day_among", defArgs (top 17), defBody (top 17), defScope (top 17), [], []⟩
def d_greatest_of : He.DefD := ⟨("greatest_of", none), "greatest_of", "greatest_of", defArgs (top 19), defBody (top 19), defScope (top 19), [], []⟩
def d_agree_on : He.DefD := ⟨("agree_on", none), "agree_on", "agree_on", defArgs (top 21), defBody (top 21), defScope (top 21), [], []⟩
def d_agree_along : He.DefD := ⟨("agree_along", none), "agree_along", "agree_along", defArgs (top 23), defBody (top 23), defScope (top 23), [], []⟩
def d_steps_agreed : He.DefD := ⟨("steps_agreed", none), "steps_agreed", "steps_agreed", defArgs (top 22), defBody (top 22), defScope (top 22), [], []⟩
def d_parting : He.DefD := ⟨("parting", none), "parting", "parting", defArgs (top 25), defBody (top 25), defScope (top 25), [], []⟩
def d_together : He.DefD := ⟨("together", none), "together", "together", defArgs (top 26), defBody (top 26), defScope (top 26), [], []⟩
def d__law_run : He.DefD := ⟨("_law_run", none), "_law_run", "_law_run", defArgs (top 39), defBody (top 39), defScope (top 39), [], []⟩
def d__law_plain : He.DefD := ⟨("_law_plain", none), "_law_plain", "_law_plain", defArgs (top 32), defBody (top 32), defScope (top 32), [], []⟩
def d__law_same : He.DefD := ⟨("_law_same", none), "_law_same", "_law_same", defArgs (top 33), defBody (top 33), defScope (top 33), [], []⟩
def d__law_pick : He.DefD := ⟨("_law_pick", none), "_law_pick", "_law_pick", defArgs (top 30), defBody (top 30), defScope (top 30), [], []⟩
def d__law_inverse : He.DefD := ⟨("_law_inverse", none), "_law_inverse", "_law_inverse", defArgs (top 43), defBody (top 43), defScope (top 43), [], []⟩
def d__law_day : He.DefD := ⟨("_law_day", none), "_law_day", "_law_day", defArgs (top 37), defBody (top 37), defScope (top 37), [], []⟩
def d__law_agree : He.DefD := ⟨("_law_agree", none), "_law_agree", "_law_agree", defArgs (top 40), defBody (top 40), defScope (top 40), [], []⟩
def d__law_is_integer : He.DefD := ⟨("_law_is_integer", none), "_law_is_integer", "_law_is_integer", defArgs (top 31), defBody (top 31), defScope (top 31), [], []⟩
def d__law_is_world : He.DefD := ⟨("_law_is_world", none), "_law_is_world", "_law_is_world", defArgs (top 38), defBody (top 38), defScope (top 38), [], []⟩
def d__law_great_holds : He.DefD := ⟨("_law_great_holds", none), "_law_great_holds", "_law_great_holds", defArgs (top 44), defBody (top 44), defScope (top 44), [], []⟩
def d__law_neighbours_hold : He.DefD := ⟨("_law_neighbours_hold", none), "_law_neighbours_hold", "_law_neighbours_hold", defArgs (top 45), defBody (top 45), defScope (top 45), [], []⟩
def d__law_world : He.DefD := ⟨("_law_world", none), "_law_world", "_law_world", defArgs (top 36), defBody (top 36), defScope (top 36), [], []⟩
def d__law_near : He.DefD := ⟨("_law_near", none), "_law_near", "_law_near", defArgs (top 41), defBody (top 41), defScope (top 41), [], []⟩
def d__law_small_holds : He.DefD := ⟨("_law_small_holds", none), "_law_small_holds", "_law_small_holds", defArgs (top 42), defBody (top 42), defScope (top 42), [], []⟩
def d_law : He.DefD := ⟨("law", none), "law", "law", defArgs (top 46), defBody (top 46), defScope (top 46), [], []⟩
def fn : List He.DefD := [d__law_stream, d__law_divisor, d__law_lowest, d__law_next, d_is_tuple_of, d_is_integer, d_is_from_to, d_common_divisor, d_is_fraction, d_is_world, d_check_world, d_check_worlds, d_check_from_to, d_check_event, d_day_among, d_greatest_of, d_agree_on, d_agree_along, d_steps_agreed, d_parting, d_together, d__law_run, d__law_plain, d__law_same, d__law_pick, d__law_inverse, d__law_day, d__law_agree, d__law_is_integer, d__law_is_world, d__law_great_holds, d__law_neighbours_hold, d__law_world, d__law_near, d__law_small_holds, d_law]
def fa : List He.Fa := [.glo "_law_stream", .glo "_law_divisor", .glo "_law_lowest", .glo "_law_next", .glo "is_tuple_of", .glo "is_integer", .glo "is_from_to", .glo "common_divisor", .glo "is_fraction", .glo "is_world", .glo "check_world", .glo "check_worlds", .glo "check_from_to", .glo "check_event", .glo "day_among", .glo "greatest_of", .glo "agree_on", .glo "agree_along", .glo "steps_agreed", .glo "parting", .glo "together", .glo "_law_run", .glo "_law_plain", .glo "_law_same", .glo "_law_pick", .glo "_law_inverse", .glo "_law_day", .glo "_law_agree", .glo "_law_is_integer", .glo "_law_is_world", .glo "_law_great_holds", .glo "_law_neighbours_hold", .glo "_law_world", .glo "_law_near", .glo "_law_small_holds", .glo "law", .int "MOST_NUMBER" (1000000000000000000000000000000000000000000000000000000000000), .int "MOST_ASKED" (1000000000000000000), .free "abs", .free "all", .free "bool", .free "int", .free "isinstance", .free "len", .free "list", .free "max", .free "range", .free "repr", .free "sorted", .free "str", .free "tuple"]
def loose : List Str := (["EvenError", "BadValue", "is_integer", "is_from_to", "is_tuple_of", "check_from_to", "MOST_NUMBER", "common_divisor", "is_fraction", "MOST_ASKED", "is_world", "check_world", "check_event", "day_among", "greatest_of", "agree_on", "steps_agreed", "agree_along", "check_worlds", "parting", "together", "_law_stream", "_law_next", "_law_pick", "_law_is_integer", "_law_plain", "_law_same", "_law_divisor", "_law_lowest", "_law_world"] : List Str) ++ (["_law_day", "_law_is_world", "_law_run", "_law_agree", "_law_near", "_law_small_holds", "_law_inverse", "_law_great_holds", "_law_neighbours_hold"] : List Str)
abbrev Rw : PySem.W.OpenRow := PySem.W.OpenLaw.row PySem.Challenge.rw_evensure_k58_whole_where_beats_part
abbrev hk : PySem.W.Hook := He.hookD 4 fa fn
def ob (s : PySem.W.SharedT) : He.AlD := He.obsDG 4 fa fn (HandSHeadRun.getT s)
theorem ob_eq (s : PySem.W.SharedT) : ob s = hk.obs s.abs := He.obsDG_eq (HandSHeadRun.getT_eq s)
theorem run (w : World) : HandSHeadRun.RunEq Rw (PySem.W.view Rw.prog [46]) hk ob 3000 loose w := by intro os; kernel_rfl

theorem txt_of {K : PySem.W.Frag} {h : Heap} {mg : Str → Option Value} (X : K.In h) (G : h.Ns mainGlobals mg) (c : He.SaysD fa fn K) : ∃ T : Txt K mg, T.a_law = He.ga K "law" ∧ ∀ (s : Shared) (v : Value), BindsTo s T.fd_law ⟨[v], []⟩ [("script", v)] := by
  obtain ⟨fd__law_stream, F__law_stream⟩ := c.def_ 0 (d := d__law_stream) rfl
  obtain ⟨fd__law_divisor, F__law_divisor⟩ := c.def_ 1 (d := d__law_divisor) rfl
  obtain ⟨fd__law_lowest, F__law_lowest⟩ := c.def_ 2 (d := d__law_lowest) rfl
  obtain ⟨fd__law_next, F__law_next⟩ := c.def_ 3 (d := d__law_next) rfl
  obtain ⟨fd_is_tuple_of, F_is_tuple_of⟩ := c.def_ 4 (d := d_is_tuple_of) rfl
  obtain ⟨fd_is_integer, F_is_integer⟩ := c.def_ 5 (d := d_is_integer) rfl
  obtain ⟨fd_is_from_to, F_is_from_to⟩ := c.def_ 6 (d := d_is_from_to) rfl
  obtain ⟨fd_common_divisor, F_common_divisor⟩ := c.def_ 7 (d := d_common_divisor) rfl
  obtain ⟨fd_is_fraction, F_is_fraction⟩ := c.def_ 8 (d := d_is_fraction) rfl
  obtain ⟨fd_is_world, F_is_world⟩ := c.def_ 9 (d := d_is_world) rfl
  obtain ⟨fd_check_world, F_check_world⟩ := c.def_ 10 (d := d_check_world) rfl
  obtain ⟨fd_check_worlds, F_check_worlds⟩ := c.def_ 11 (d := d_check_worlds) rfl
  obtain ⟨fd_check_from_to, F_check_from_to⟩ := c.def_ 12 (d := d_check_from_to) rfl
  obtain ⟨fd_check_event, F_check_event⟩ := c.def_ 13 (d := d_check_event) rfl
  obtain ⟨fd_day_among, F_day_among⟩ := c.def_ 14 (d := d_day_among) rfl
  obtain ⟨fd_greatest_of, F_greatest_of⟩ := c.def_ 15 (d := d_greatest_of) rfl
  obtain ⟨fd_agree_on, F_agree_on⟩ := c.def_ 16 (d := d_agree_on) rfl
  obtain ⟨fd_agree_along, F_agree_along⟩ := c.def_ 17 (d := d_agree_along) rfl
  obtain ⟨fd_steps_agreed, F_steps_agreed⟩ := c.def_ 18 (d := d_steps_agreed) rfl
  obtain ⟨fd_parting, F_parting⟩ := c.def_ 19 (d := d_parting) rfl
  obtain ⟨fd_together, F_together⟩ := c.def_ 20 (d := d_together) rfl
  obtain ⟨fd__law_run, F__law_run⟩ := c.def_ 21 (d := d__law_run) rfl
  obtain ⟨fd__law_plain, F__law_plain⟩ := c.def_ 22 (d := d__law_plain) rfl
  obtain ⟨fd__law_same, F__law_same⟩ := c.def_ 23 (d := d__law_same) rfl
  obtain ⟨fd__law_pick, F__law_pick⟩ := c.def_ 24 (d := d__law_pick) rfl
  obtain ⟨fd__law_inverse, F__law_inverse⟩ := c.def_ 25 (d := d__law_inverse) rfl
  obtain ⟨fd__law_day, F__law_day⟩ := c.def_ 26 (d := d__law_day) rfl
  obtain ⟨fd__law_agree, F__law_agree⟩ := c.def_ 27 (d := d__law_agree) rfl
  obtain ⟨fd__law_is_integer, F__law_is_integer⟩ := c.def_ 28 (d := d__law_is_integer) rfl
  obtain ⟨fd__law_is_world, F__law_is_world⟩ := c.def_ 29 (d := d__law_is_world) rfl
  obtain ⟨fd__law_great_holds, F__law_great_holds⟩ := c.def_ 30 (d := d__law_great_holds) rfl
  obtain ⟨fd__law_neighbours_hold, F__law_neighbours_hold⟩ := c.def_ 31 (d := d__law_neighbours_hold) rfl
  obtain ⟨fd__law_world, F__law_world⟩ := c.def_ 32 (d := d__law_world) rfl
  obtain ⟨fd__law_near, F__law_near⟩ := c.def_ 33 (d := d__law_near) rfl
  obtain ⟨fd__law_small_holds, F__law_small_holds⟩ := c.def_ 34 (d := d__law_small_holds) rfl
  obtain ⟨fd_law, F_law⟩ := c.def_ 35 (d := d_law) rfl
  refine ⟨({
    a__law_stream := He.ga K "_law_stream"
    fd__law_stream := fd__law_stream
    F__law_stream := F__law_stream
    g__law_stream := He.glo_ok X G (c.fact 0 (f := .glo "_law_stream") rfl)
    b__law_stream := ⟨[], .nil, FunD.bindsN F__law_stream fun _ _ _ _ _ _ us hl => match us, hl with | [_], _ => rfl⟩
    a__law_divisor := He.ga K "_law_divisor"
    fd__law_divisor := fd__law_divisor
    F__law_divisor := F__law_divisor
    g__law_divisor := He.glo_ok X G (c.fact 1 (f := .glo "_law_divisor") rfl)
    b__law_divisor := ⟨[], .nil, FunD.bindsN F__law_divisor fun _ _ _ _ _ _ us hl => match us, hl with | [_, _], _ => rfl⟩
    a__law_lowest := He.ga K "_law_lowest"
    fd__law_lowest := fd__law_lowest
    F__law_lowest := F__law_lowest
    g__law_lowest := He.glo_ok X G (c.fact 2 (f := .glo "_law_lowest") rfl)
    b__law_lowest := ⟨[], .nil, FunD.bindsN F__law_lowest fun _ _ _ _ _ _ us hl => match us, hl with | [_, _], _ => rfl⟩
    a__law_next := He.ga K "_law_next"
    fd__law_next := fd__law_next
    F__law_next := F__law_next
    g__law_next := He.glo_ok X G (c.fact 3 (f := .glo "_law_next") rfl)
    b__law_next := ⟨[], .nil, FunD.bindsN F__law_next fun _ _ _ _ _ _ us hl => match us, hl with | [_, _], _ => rfl⟩
    a_is_tuple_of := He.ga K "is_tuple_of"
    fd_is_tuple_of := fd_is_tuple_of
    F_is_tuple_of := F_is_tuple_of
    g_is_tuple_of := He.glo_ok X G (c.fact 4 (f := .glo "is_tuple_of") rfl)
    b_is_tuple_of := ⟨[], .nil, FunD.bindsN F_is_tuple_of fun _ _ _ _ _ _ us hl => match us, hl with | [_, _, _], _ => rfl⟩
    a_is_integer := He.ga K "is_integer"
    fd_is_integer := fd_is_integer
    F_is_integer := F_is_integer
    g_is_integer := He.glo_ok X G (c.fact 5 (f := .glo "is_integer") rfl)
    b_is_integer := ⟨[], .nil, FunD.bindsN F_is_integer fun _ _ _ _ _ _ us hl => match us, hl with | [_], _ => rfl⟩
    a_is_from_to := He.ga K "is_from_to"
    fd_is_from_to := fd_is_from_to
    F_is_from_to := F_is_from_to
    g_is_from_to := He.glo_ok X G (c.fact 6 (f := .glo "is_from_to") rfl)
    b_is_from_to := ⟨[], .nil, FunD.bindsN F_is_from_to fun _ _ _ _ _ _ us hl => match us, hl with | [_, _, _], _ => rfl⟩
    a_common_divisor := He.ga K "common_divisor"
    fd_common_divisor := fd_common_divisor
    F_common_divisor := F_common_divisor
    g_common_divisor := He.glo_ok X G (c.fact 7 (f := .glo "common_divisor") rfl)
    b_common_divisor := ⟨[], .nil, FunD.bindsN F_common_divisor fun _ _ _ _ _ _ us hl => match us, hl with | [_, _], _ => rfl⟩
    a_is_fraction := He.ga K "is_fraction"
    fd_is_fraction := fd_is_fraction
    F_is_fraction := F_is_fraction
    g_is_fraction := He.glo_ok X G (c.fact 8 (f := .glo "is_fraction") rfl)
    b_is_fraction := ⟨[], .nil, FunD.bindsN F_is_fraction fun _ _ _ _ _ _ us hl => match us, hl with | [_], _ => rfl⟩
    a_is_world := He.ga K "is_world"
    fd_is_world := fd_is_world
    F_is_world := F_is_world
    g_is_world := He.glo_ok X G (c.fact 9 (f := .glo "is_world") rfl)
    b_is_world := ⟨[], .nil, FunD.bindsN F_is_world fun _ _ _ _ _ _ us hl => match us, hl with | [_], _ => rfl⟩
    a_check_world := He.ga K "check_world"
    fd_check_world := fd_check_world
    F_check_world := F_check_world
    g_check_world := He.glo_ok X G (c.fact 10 (f := .glo "check_world") rfl)
    b_check_world := FunD.binds1 (ps := ["world", "name"]) F_check_world 2 1 (by exact fun z => nomatch z) rfl fun T kV doc pm an cdv ct us its hu hi => match us, hu, its, hi with | [_, _], _, [_], _ => ⟨_, rfl, rfl⟩
    b1_check_world := FunD.binds1 (ps := ["world", "name"]) F_check_world 1 0 (by exact fun z => nomatch z) rfl fun T kV doc pm an cdv ct us its hu hi => match us, hu, its, hi with | [_], _, [_], _ => ⟨_, rfl, rfl⟩
    a_check_worlds := He.ga K "check_worlds"
    fd_check_worlds := fd_check_worlds
    F_check_worlds := F_check_worlds
    g_check_worlds := He.glo_ok X G (c.fact 11 (f := .glo "check_worlds") rfl)
    b_check_worlds := ⟨[], .nil, FunD.bindsN F_check_worlds fun _ _ _ _ _ _ us hl => match us, hl with | [_, _], _ => rfl⟩
    a_check_from_to := He.ga K "check_from_to"
    fd_check_from_to := fd_check_from_to
    F_check_from_to := F_check_from_to
    g_check_from_to := He.glo_ok X G (c.fact 12 (f := .glo "check_from_to") rfl)
    b_check_from_to := ⟨[], .nil, FunD.bindsN F_check_from_to fun _ _ _ _ _ _ us hl => match us, hl with | [_, _, _, _], _ => rfl⟩
    a_check_event := He.ga K "check_event"
    fd_check_event := fd_check_event
    F_check_event := F_check_event
    g_check_event := He.glo_ok X G (c.fact 13 (f := .glo "check_event") rfl)
    b_check_event := FunD.binds1 (ps := ["value", "name"]) F_check_event 2 1 (by exact fun z => nomatch z) rfl fun T kV doc pm an cdv ct us its hu hi => match us, hu, its, hi with | [_, _], _, [_], _ => ⟨_, rfl, rfl⟩
    b1_check_event := FunD.binds1 (ps := ["value", "name"]) F_check_event 1 0 (by exact fun z => nomatch z) rfl fun T kV doc pm an cdv ct us its hu hi => match us, hu, its, hi with | [_], _, [_], _ => ⟨_, rfl, rfl⟩
    a_day_among := He.ga K "day_among"
    fd_day_among := fd_day_among
    F_day_among := F_day_among
    g_day_among := He.glo_ok X G (c.fact 14 (f := .glo "day_among") rfl)
    b_day_among := ⟨[], .nil, FunD.bindsN F_day_among fun _ _ _ _ _ _ us hl => match us, hl with | [_, _], _ => rfl⟩
    a_greatest_of := He.ga K "greatest_of"
    fd_greatest_of := fd_greatest_of
    F_greatest_of := F_greatest_of
    g_greatest_of := He.glo_ok X G (c.fact 15 (f := .glo "greatest_of") rfl)
    b_greatest_of := ⟨[], .nil, FunD.bindsN F_greatest_of fun _ _ _ _ _ _ us hl => match us, hl with | [_, _, _, _, _, _], _ => rfl⟩
    a_agree_on := He.ga K "agree_on"
    fd_agree_on := fd_agree_on
    F_agree_on := F_agree_on
    g_agree_on := He.glo_ok X G (c.fact 16 (f := .glo "agree_on") rfl)
    b_agree_on := ⟨[], .nil, FunD.bindsN F_agree_on fun _ _ _ _ _ _ us hl => match us, hl with | [_, _, _, _], _ => rfl⟩
    a_agree_along := He.ga K "agree_along"
    fd_agree_along := fd_agree_along
    F_agree_along := F_agree_along
    g_agree_along := He.glo_ok X G (c.fact 17 (f := .glo "agree_along") rfl)
    b_agree_along := ⟨[], .nil, FunD.bindsN F_agree_along fun _ _ _ _ _ _ us hl => match us, hl with | [_, _, _, _, _], _ => rfl⟩
    a_steps_agreed := He.ga K "steps_agreed"
    fd_steps_agreed := fd_steps_agreed
    F_steps_agreed := F_steps_agreed
    g_steps_agreed := He.glo_ok X G (c.fact 18 (f := .glo "steps_agreed") rfl)
    b_steps_agreed := ⟨[], .nil, FunD.bindsN F_steps_agreed fun _ _ _ _ _ _ us hl => match us, hl with | [_, _, _, _], _ => rfl⟩
    a_parting := He.ga K "parting"
    fd_parting := fd_parting
    F_parting := F_parting
    g_parting := He.glo_ok X G (c.fact 19 (f := .glo "parting") rfl)
    b_parting := ⟨[], .nil, FunD.bindsN F_parting fun _ _ _ _ _ _ us hl => match us, hl with | [_, _, _], _ => rfl⟩
    a_together := He.ga K "together"
    fd_together := fd_together
    F_together := F_together
    g_together := He.glo_ok X G (c.fact 20 (f := .glo "together") rfl)
    b_together := ⟨[], .nil, FunD.bindsN F_together fun _ _ _ _ _ _ us hl => match us, hl with | [_, _, _], _ => rfl⟩
    a__law_run := He.ga K "_law_run"
    fd__law_run := fd__law_run
    F__law_run := F__law_run
    g__law_run := He.glo_ok X G (c.fact 21 (f := .glo "_law_run") rfl)
    b__law_run := ⟨[], .nil, FunD.bindsN F__law_run fun _ _ _ _ _ _ us hl => match us, hl with | [_, _, _, _], _ => rfl⟩
    a__law_plain := He.ga K "_law_plain"
    fd__law_plain := fd__law_plain
    F__law_plain := F__law_plain
    g__law_plain := He.glo_ok X G (c.fact 22 (f := .glo "_law_plain") rfl)
    b__law_plain := ⟨[], .nil, FunD.bindsN F__law_plain fun _ _ _ _ _ _ us hl => match us, hl with | [_], _ => rfl⟩
    a__law_same := He.ga K "_law_same"
    fd__law_same := fd__law_same
    F__law_same := F__law_same
    g__law_same := He.glo_ok X G (c.fact 23 (f := .glo "_law_same") rfl)
    b__law_same := ⟨[], .nil, FunD.bindsN F__law_same fun _ _ _ _ _ _ us hl => match us, hl with | [_, _], _ => rfl⟩
    a__law_pick := He.ga K "_law_pick"
    fd__law_pick := fd__law_pick
    F__law_pick := F__law_pick
    g__law_pick := He.glo_ok X G (c.fact 24 (f := .glo "_law_pick") rfl)
    b__law_pick := ⟨[], .nil, FunD.bindsN F__law_pick fun _ _ _ _ _ _ us hl => match us, hl with | [_, _], _ => rfl⟩
    a__law_inverse := He.ga K "_law_inverse"
    fd__law_inverse := fd__law_inverse
    F__law_inverse := F__law_inverse
    g__law_inverse := He.glo_ok X G (c.fact 25 (f := .glo "_law_inverse") rfl)
    b__law_inverse := ⟨[], .nil, FunD.bindsN F__law_inverse fun _ _ _ _ _ _ us hl => match us, hl with | [_, _], _ => rfl⟩
    a__law_day := He.ga K "_law_day"
    fd__law_day := fd__law_day
    F__law_day := F__law_day
    g__law_day := He.glo_ok X G (c.fact 26 (f := .glo "_law_day") rfl)
    b__law_day := ⟨[], .nil, FunD.bindsN F__law_day fun _ _ _ _ _ _ us hl => match us, hl with | [_, _], _ => rfl⟩
    a__law_agree := He.ga K "_law_agree"
    fd__law_agree := fd__law_agree
    F__law_agree := F__law_agree
    g__law_agree := He.glo_ok X G (c.fact 27 (f := .glo "_law_agree") rfl)
    b__law_agree := ⟨[], .nil, FunD.bindsN F__law_agree fun _ _ _ _ _ _ us hl => match us, hl with | [_, _, _], _ => rfl⟩
    a__law_is_integer := He.ga K "_law_is_integer"
    fd__law_is_integer := fd__law_is_integer
    F__law_is_integer := F__law_is_integer
    g__law_is_integer := He.glo_ok X G (c.fact 28 (f := .glo "_law_is_integer") rfl)
    b__law_is_integer := ⟨[], .nil, FunD.bindsN F__law_is_integer fun _ _ _ _ _ _ us hl => match us, hl with | [_], _ => rfl⟩
    a__law_is_world := He.ga K "_law_is_world"
    fd__law_is_world := fd__law_is_world
    F__law_is_world := F__law_is_world
    g__law_is_world := He.glo_ok X G (c.fact 29 (f := .glo "_law_is_world") rfl)
    b__law_is_world := ⟨[], .nil, FunD.bindsN F__law_is_world fun _ _ _ _ _ _ us hl => match us, hl with | [_], _ => rfl⟩
    a__law_great_holds := He.ga K "_law_great_holds"
    fd__law_great_holds := fd__law_great_holds
    F__law_great_holds := F__law_great_holds
    g__law_great_holds := He.glo_ok X G (c.fact 30 (f := .glo "_law_great_holds") rfl)
    b__law_great_holds := ⟨[], .nil, FunD.bindsN F__law_great_holds fun _ _ _ _ _ _ us hl => match us, hl with | [_], _ => rfl⟩
    a__law_neighbours_hold := He.ga K "_law_neighbours_hold"
    fd__law_neighbours_hold := fd__law_neighbours_hold
    F__law_neighbours_hold := F__law_neighbours_hold
    g__law_neighbours_hold := He.glo_ok X G (c.fact 31 (f := .glo "_law_neighbours_hold") rfl)
    b__law_neighbours_hold := ⟨[], .nil, FunD.bindsN F__law_neighbours_hold fun _ _ _ _ _ _ us hl => match us, hl with | [_], _ => rfl⟩
    a__law_world := He.ga K "_law_world"
    fd__law_world := fd__law_world
    F__law_world := F__law_world
    g__law_world := He.glo_ok X G (c.fact 32 (f := .glo "_law_world") rfl)
    b__law_world := ⟨[], .nil, FunD.bindsN F__law_world fun _ _ _ _ _ _ us hl => match us, hl with | [_, _, _], _ => rfl⟩
    a__law_near := He.ga K "_law_near"
    fd__law_near := fd__law_near
    F__law_near := F__law_near
    g__law_near := He.glo_ok X G (c.fact 33 (f := .glo "_law_near") rfl)
    b__law_near := ⟨[], .nil, FunD.bindsN F__law_near fun _ _ _ _ _ _ us hl => match us, hl with | [_, _], _ => rfl⟩
    a__law_small_holds := He.ga K "_law_small_holds"
    fd__law_small_holds := fd__law_small_holds
    F__law_small_holds := F__law_small_holds
    g__law_small_holds := He.glo_ok X G (c.fact 34 (f := .glo "_law_small_holds") rfl)
    b__law_small_holds := ⟨[], .nil, FunD.bindsN F__law_small_holds fun _ _ _ _ _ _ us hl => match us, hl with | [_], _ => rfl⟩
    a_law := He.ga K "law"
    fd_law := fd_law
    F_law := F_law
    g_law := He.glo_ok X G (c.fact 35 (f := .glo "law") rfl)
    b_law := ⟨[], .nil, FunD.bindsN F_law fun _ _ _ _ _ _ us hl => match us, hl with | [_], _ => rfl⟩
    i_MOST_NUMBER := He.int_ok X G (c.fact 36 (f := .int "MOST_NUMBER" (1000000000000000000000000000000000000000000000000000000000000)) rfl)
    i_MOST_ASKED := He.int_ok X G (c.fact 37 (f := .int "MOST_ASKED" (1000000000000000000)) rfl)
    n_abs := He.free_ok X G (c.fact 38 (f := .free "abs") rfl)
    n_all := He.free_ok X G (c.fact 39 (f := .free "all") rfl)
    n_bool := He.free_ok X G (c.fact 40 (f := .free "bool") rfl)
    n_int := He.free_ok X G (c.fact 41 (f := .free "int") rfl)
    n_isinstance := He.free_ok X G (c.fact 42 (f := .free "isinstance") rfl)
    n_len := He.free_ok X G (c.fact 43 (f := .free "len") rfl)
    n_list := He.free_ok X G (c.fact 44 (f := .free "list") rfl)
    n_max := He.free_ok X G (c.fact 45 (f := .free "max") rfl)
    n_range := He.free_ok X G (c.fact 46 (f := .free "range") rfl)
    n_repr := He.free_ok X G (c.fact 47 (f := .free "repr") rfl)
    n_sorted := He.free_ok X G (c.fact 48 (f := .free "sorted") rfl)
    n_str := He.free_ok X G (c.fact 49 (f := .free "str") rfl)
    n_tuple := He.free_ok X G (c.fact 50 (f := .free "tuple") rfl) } : Txt K mg), rfl, ?_⟩
  exact fun s v => FunD.bindsA (ps := ["script"]) F_law (fun _ _ _ _ _ _ us hl => match us, hl with | [_], _ => rfl) s [v] rfl
end P58
open PySem PySem.W PySem.Calls PyProof.Rows
theorem PySem.Challenge.cw_evensure_k58_whole_where_beats_part_holds : PySem.Challenge.rw_evensure_k58_whole_where_beats_part.Holds := by
  w_on; o_law
  refine HandSHeadRun.head_any (r := OpenLaw.row PySem.Challenge.rw_evensure_k58_whole_where_beats_part) (q := view (OpenLaw.row PySem.Challenge.rw_evensure_k58_whole_where_beats_part).prog [46]) (H := P58.hk) (ob := P58.ob) (M := 3000) (loose := P58.loose) (d := HandSHeadRun.topDef (OpenLaw.row PySem.Challenge.rw_evensure_k58_whole_where_beats_part).prog 46) (kwd := []) P58.ob_eq
    (by kernel_rfl) (fun s => by kernel_rfl) P58.run (by kernel_rfl) (by kernel_rfl) (by kernel_rfl) (by rfl) (by first | assumption | decide +kernel) (by decide +kernel) ⟨rfl, rfl, rfl, rfl, rfl, by decide +kernel⟩ ?hw ?hc
  case hw => w_witness2
  case hc =>
    refine EV.walk_ofG (l := PySem.Challenge.rw_evensure_k58_whole_where_beats_part) (n := 63) (k := 10) (x := "script") (F := P58.F_law) rfl (by decide) (by kernel_rfl) ⟨rfl, by decide, by decide⟩ ?T P58.plain
    intro w mg fa h Y G hmg0
    obtain ⟨K, KX, c⟩ := Y
    have hmg : mg ("law" : PySem.Str) = some (.ref fa) := by
      have e : (HandSHeadRun.topDef (OpenLaw.row PySem.Challenge.rw_evensure_k58_whole_where_beats_part).prog 46).name = ("law" : PySem.Str) := by kernel_rfl
      rw [← e]
      exact hmg0
    obtain ⟨T, ea, hb⟩ := P58.txt_of KX G c
    have ef : fa = He.ga K "law" := by
      have e2 := hmg.symm.trans T.g_law
      rw [ea] at e2
      cases e2
      rfl
    subst ef
    rw [← ea]
    exact ⟨K, T.fd_law, KX, hb, fun base _ _ => P58.ok_law T⟩
