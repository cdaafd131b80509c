import PyProof.Rows.All
import Wide.All
import OpenK.AllK
import Wide.FinOn
import HandS.ForMost
import HandS.ForExc
import HandS.Walk
import HandS.Wide
import HandS.TupAny
import HandS.TupMul
import HandS.IsInst
import HandS.Text
import HandS.TryOnly
import KE.KDictZip
import HandS.RaiseMore
import KE.KTupSum
import HandS.ExcInit
import HandS.ExcField
import KE.KExcIs
import HandS.ExcIs
import PySem.Challenge.RW_dueturns_k32_deeds_taken_back
set_option Elab.async false
set_option linter.all false
set_option maxRecDepth 100000
set_option maxHeartbeats 4000000
namespace DL
open PySem PySem.Spec PyProof.Rows L2

/-! ### the data of a value -/
inductive D where
  | non
  | bl (b : Bool)
  | int (i : Int)
  | str (x : Str)
  | lst (xs : List D)
  | fls (xs : List D)
  | tup (xs : List D)
  | ctp (xs : List D)
  | dic (kvs : List (D × D))
  | obj (c : Str) (fs : List (Str × D))
  | hdl (n : Nat)

/-- a thing that may be changed and that several may know: an object, a list -/
inductive Cl where
  | obj (c : Str) (fs : List (Str × D))
  | lst (ds : List D)
abbrev Tbl := List Cl
/-- a caught exception: where it stands, its class, its dict -/
abbrev XV := Addr × Value × Option Addr
/-- the written part and the names of the module; where the things that may be changed stand, and what they hold -/
structure Gd where
  K : PySem.W.Frag
  mg : Str → Option Value
  al : List Addr
  mu : Tbl
  ex : Option XV

def keyD : Key → D
  | .inl i => .int i
  | .inr x => .str x

section
variable (G : Gd) (B : Hp)
mutual
def Rep : D → V → Prop
  | .non, v => v = .non
  | .bl b, v => v = .bl b
  | .int i, v => v = .int i
  | .str x, v => v = .str x
  | .lst ds, v => ∃ a xs, v = .ref a ∧ B a = some (.lst xs) ∧ Reps ds xs
  | .fls ds, v => ∃ a xs, v = .ref a ∧ SqL G.K B a xs ∧ Reps ds xs
  | .tup ds, v => ∃ a xs, v = .ref a ∧ B a = some (.tup xs) ∧ Reps ds xs
  | .ctp ds, v => ∃ a xs, v = .ref a ∧ SqT G.K B a xs ∧ Reps ds xs
  | .dic kvs, v => ∃ a, v = .ref a ∧ ((∃ t, Rd B a (.dT t) ∧ RepT kvs t) ∨ (∃ t, Rd B a (.dK t) ∧ RepK kvs t))
  | .obj c fs, v => ∃ a C dx gs, v = .ref a ∧ G.mg c = some (.ref C) ∧ B a = some (.ins C dx gs) ∧ RepF fs gs
  | .hdl n, v => ∃ a, G.al[n]? = some a ∧ v = .ref a
def Reps : List D → List V → Prop
  | [], vs => vs = []
  | d :: ds, vs => ∃ v r, vs = v :: r ∧ Rep d v ∧ Reps ds r
def RepF : List (Str × D) → List (Str × V) → Prop
  | [], gs => gs = []
  | (f, d) :: fs, gs => ∃ v r, gs = (f, v) :: r ∧ Rep d v ∧ RepF fs r
def RepT : List (D × D) → List (List Key × V) → Prop
  | [], gs => gs = []
  | (k, d) :: fs, gs => ∃ ks v r, gs = (ks, v) :: r ∧ k = .tup (ks.map keyD) ∧ Rep d v ∧ RepT fs r
def RepK : List (D × D) → List (Key × V) → Prop
  | [], gs => gs = []
  | (k, d) :: fs, gs => ∃ ky v r, gs = (ky, v) :: r ∧ k = keyD ky ∧ Rep d v ∧ RepK fs r
end
end

/-! ### heaps -/
theorem same_upd {H : Hp} {p : Addr} {o : HO} (hp : H p = none) : Same H (upd H p o) := fun b u e => by
  rw [upd_ne (ne_of_none e hp)]
  exact e
theorem rd_mono {B B' : Hp} {a : Addr} {u : HO} (h : Same B B') (r : Rd B a u) : Rd B' a u := by
  rcases r with r | ⟨o, r⟩
  · exact .inl (h _ _ r)
  · exact .inr ⟨o, h _ _ r⟩
theorem sql_mono {K : PySem.W.Frag} {B B' : Hp} {a : Addr} {xs : List V} (h : Same B B') (r : SqL K B a xs) : SqL K B' a xs := by
  rcases r with r | r
  · exact .inl (rd_mono h r)
  · exact .inr r
theorem sqt_mono {K : PySem.W.Frag} {B B' : Hp} {a : Addr} {xs : List V} (h : Same B B') (r : SqT K B a xs) : SqT K B' a xs := by
  rcases r with r | r
  · exact .inl (rd_mono h r)
  · exact .inr r
section
variable {G : Gd} {B B' : Hp}
mutual
theorem rep_mono (h : Same B B') : ∀ (d : D) (v : V), Rep G B d v → Rep G B' d v
  | .non, v, r => by simpa only [Rep] using r
  | .bl b, v, r => by simpa only [Rep] using r
  | .int i, v, r => by simpa only [Rep] using r
  | .str x, v, r => by simpa only [Rep] using r
  | .lst ds, v, r => by
    simp only [Rep] at r ⊢
    obtain ⟨a, xs, e, q, rs⟩ := r
    exact ⟨a, xs, e, h _ _ q, reps_mono h ds xs rs⟩
  | .fls ds, v, r => by
    simp only [Rep] at r ⊢
    obtain ⟨a, xs, e, q, rs⟩ := r
    exact ⟨a, xs, e, sql_mono h q, reps_mono h ds xs rs⟩
  | .tup ds, v, r => by
    simp only [Rep] at r ⊢
    obtain ⟨a, xs, e, q, rs⟩ := r
    exact ⟨a, xs, e, h _ _ q, reps_mono h ds xs rs⟩
  | .ctp ds, v, r => by
    simp only [Rep] at r ⊢
    obtain ⟨a, xs, e, q, rs⟩ := r
    exact ⟨a, xs, e, sqt_mono h q, reps_mono h ds xs rs⟩
  | .dic kvs, v, r => by
    simp only [Rep] at r ⊢
    obtain ⟨a, e, q⟩ := r
    refine ⟨a, e, ?_⟩
    rcases q with ⟨t, q, rs⟩ | ⟨t, q, rs⟩
    · exact .inl ⟨t, rd_mono h q, rept_mono h kvs t rs⟩
    · exact .inr ⟨t, rd_mono h q, repk_mono h kvs t rs⟩
  | .obj c fs, v, r => by
    simp only [Rep] at r ⊢
    obtain ⟨a, C, dx, gs, e, m, q, rs⟩ := r
    exact ⟨a, C, dx, gs, e, m, h _ _ q, repf_mono h fs gs rs⟩
  | .hdl n, v, r => by simpa only [Rep] using r
theorem reps_mono (h : Same B B') : ∀ (ds : List D) (vs : List V), Reps G B ds vs → Reps G B' ds vs
  | [], vs, r => by simpa only [Reps] using r
  | d :: ds, vs, r => by
    simp only [Reps] at r ⊢
    obtain ⟨v, t, e, r1, r2⟩ := r
    exact ⟨v, t, e, rep_mono h d v r1, reps_mono h ds t r2⟩
theorem repf_mono (h : Same B B') : ∀ (ds : List (Str × D)) (vs : List (Str × V)), RepF G B ds vs → RepF G B' ds vs
  | [], vs, r => by simpa only [RepF] using r
  | (f, d) :: ds, vs, r => by
    simp only [RepF] at r ⊢
    obtain ⟨v, t, e, r1, r2⟩ := r
    exact ⟨v, t, e, rep_mono h d v r1, repf_mono h ds t r2⟩
theorem rept_mono (h : Same B B') : ∀ (ds : List (D × D)) (vs : List (List Key × V)), RepT G B ds vs → RepT G B' ds vs
  | [], vs, r => by simpa only [RepT] using r
  | (k, d) :: ds, vs, r => by
    simp only [RepT] at r ⊢
    obtain ⟨ks, v, t, e, ek, r1, r2⟩ := r
    exact ⟨ks, v, t, e, ek, rep_mono h d v r1, rept_mono h ds t r2⟩
theorem repk_mono (h : Same B B') : ∀ (ds : List (D × D)) (vs : List (Key × V)), RepK G B ds vs → RepK G B' ds vs
  | [], vs, r => by simpa only [RepK] using r
  | (k, d) :: ds, vs, r => by
    simp only [RepK] at r ⊢
    obtain ⟨ks, v, t, e, ek, r1, r2⟩ := r
    exact ⟨ks, v, t, e, ek, rep_mono h d v r1, repk_mono h ds t r2⟩
end
section
variable {K : PySem.W.Frag} {mg : Str → Option Value} {al al' : List Addr} {mu mu' : Tbl} {ex ex' : Option XV} {B : Hp}
mutual
theorem rep_grow (h : ∀ (n : Nat) (a : Addr), al[n]? = some a → al'[n]? = some a) : ∀ (d : D) (v : V), Rep ⟨K, mg, al, mu, ex⟩ B d v → Rep ⟨K, mg, al', mu', ex'⟩ B d v
  | .non, v, r => by simpa only [Rep] using r
  | .bl b, v, r => by simpa only [Rep] using r
  | .int i, v, r => by simpa only [Rep] using r
  | .str x, v, r => by simpa only [Rep] using r
  | .lst ds, v, r => by
    simp only [Rep] at r ⊢
    obtain ⟨a, xs, e, q, rs⟩ := r
    exact ⟨a, xs, e, q, reps_grow h ds xs rs⟩
  | .fls ds, v, r => by
    simp only [Rep] at r ⊢
    obtain ⟨a, xs, e, q, rs⟩ := r
    exact ⟨a, xs, e, q, reps_grow h ds xs rs⟩
  | .tup ds, v, r => by
    simp only [Rep] at r ⊢
    obtain ⟨a, xs, e, q, rs⟩ := r
    exact ⟨a, xs, e, q, reps_grow h ds xs rs⟩
  | .ctp ds, v, r => by
    simp only [Rep] at r ⊢
    obtain ⟨a, xs, e, q, rs⟩ := r
    exact ⟨a, xs, e, q, reps_grow h ds xs rs⟩
  | .dic kvs, v, r => by
    simp only [Rep] at r ⊢
    obtain ⟨a, e, q⟩ := r
    refine ⟨a, e, ?_⟩
    rcases q with ⟨t, q, rs⟩ | ⟨t, q, rs⟩
    · exact .inl ⟨t, q, rept_grow h kvs t rs⟩
    · exact .inr ⟨t, q, repk_grow h kvs t rs⟩
  | .obj c fs, v, r => by
    simp only [Rep] at r ⊢
    obtain ⟨a, C, dx, gs, e, m, q, rs⟩ := r
    exact ⟨a, C, dx, gs, e, m, q, repf_grow h fs gs rs⟩
  | .hdl n, v, r => by
    simp only [Rep] at r ⊢
    obtain ⟨a, e, q⟩ := r
    exact ⟨a, h _ _ e, q⟩
theorem reps_grow (h : ∀ (n : Nat) (a : Addr), al[n]? = some a → al'[n]? = some a) : ∀ (ds : List D) (vs : List V), Reps ⟨K, mg, al, mu, ex⟩ B ds vs → Reps ⟨K, mg, al', mu', ex'⟩ B ds vs
  | [], vs, r => by simpa only [Reps] using r
  | d :: ds, vs, r => by
    simp only [Reps] at r ⊢
    obtain ⟨v, t, e, r1, r2⟩ := r
    exact ⟨v, t, e, rep_grow h d v r1, reps_grow h ds t r2⟩
theorem repf_grow (h : ∀ (n : Nat) (a : Addr), al[n]? = some a → al'[n]? = some a) : ∀ (ds : List (Str × D)) (vs : List (Str × V)), RepF ⟨K, mg, al, mu, ex⟩ B ds vs → RepF ⟨K, mg, al', mu', ex'⟩ B ds vs
  | [], vs, r => by simpa only [RepF] using r
  | (f, d) :: ds, vs, r => by
    simp only [RepF] at r ⊢
    obtain ⟨v, t, e, r1, r2⟩ := r
    exact ⟨v, t, e, rep_grow h d v r1, repf_grow h ds t r2⟩
theorem rept_grow (h : ∀ (n : Nat) (a : Addr), al[n]? = some a → al'[n]? = some a) : ∀ (ds : List (D × D)) (vs : List (List Key × V)), RepT ⟨K, mg, al, mu, ex⟩ B ds vs → RepT ⟨K, mg, al', mu', ex'⟩ B ds vs
  | [], vs, r => by simpa only [RepT] using r
  | (k, d) :: ds, vs, r => by
    simp only [RepT] at r ⊢
    obtain ⟨ks, v, t, e, ek, r1, r2⟩ := r
    exact ⟨ks, v, t, e, ek, rep_grow h d v r1, rept_grow h ds t r2⟩
theorem repk_grow (h : ∀ (n : Nat) (a : Addr), al[n]? = some a → al'[n]? = some a) : ∀ (ds : List (D × D)) (vs : List (Key × V)), RepK ⟨K, mg, al, mu, ex⟩ B ds vs → RepK ⟨K, mg, al', mu', ex'⟩ B ds vs
  | [], vs, r => by simpa only [RepK] using r
  | (k, d) :: ds, vs, r => by
    simp only [RepK] at r ⊢
    obtain ⟨ks, v, t, e, ek, r1, r2⟩ := r
    exact ⟨ks, v, t, e, ek, rep_grow h d v r1, repk_grow h ds t r2⟩
end
end
end

/-! ### lists of data and of values -/
section
variable {G : Gd} {B B' : Hp}
theorem reps_len : ∀ {ds : List D} {vs : List V}, Reps G B ds vs → vs.length = ds.length
  | [], _, r => by simp only [Reps] at r; subst r; rfl
  | d :: ds, _, r => by
    simp only [Reps] at r
    obtain ⟨v, t, e, _, r2⟩ := r
    subst e
    simp only [List.length_cons, reps_len r2]
theorem reps_get : ∀ {ds : List D} {vs : List V} {i : Nat} {d : D}, Reps G B ds vs → ds[i]? = some d → ∃ v, vs[i]? = some v ∧ Rep G B d v
  | [], _, _, _, _, h => by simp at h
  | d :: ds, _, 0, x, r, h => by
    simp only [Reps] at r
    obtain ⟨v, t, e, r1, _⟩ := r
    subst e
    simp at h
    subst h
    exact ⟨v, rfl, r1⟩
  | d :: ds, _, i + 1, x, r, h => by
    simp only [Reps] at r
    obtain ⟨v, t, e, _, r2⟩ := r
    subst e
    obtain ⟨w, hw, rw'⟩ := reps_get (i := i) r2 (by simpa using h)
    exact ⟨w, by simpa using hw, rw'⟩
theorem reps_get' : ∀ {ds : List D} {vs : List V} {i : Nat} {v : V}, Reps G B ds vs → vs[i]? = some v → ∃ d, ds[i]? = some d ∧ Rep G B d v
  | [], _, _, _, r, h => by simp only [Reps] at r; subst r; simp at h
  | d :: ds, _, 0, x, r, h => by
    simp only [Reps] at r
    obtain ⟨v, t, e, r1, _⟩ := r
    subst e
    simp at h
    subst h
    exact ⟨d, rfl, r1⟩
  | d :: ds, _, i + 1, x, r, h => by
    simp only [Reps] at r
    obtain ⟨v, t, e, _, r2⟩ := r
    subst e
    obtain ⟨w, hw, rw'⟩ := reps_get' (i := i) r2 (by simpa using h)
    exact ⟨w, by simpa using hw, rw'⟩
theorem reps_app : ∀ {ds es : List D} {vs ws : List V}, Reps G B ds vs → Reps G B es ws → Reps G B (ds ++ es) (vs ++ ws)
  | [], _, _, _, r, q => by simp only [Reps] at r; subst r; exact q
  | d :: ds, _, _, _, r, q => by
    simp only [Reps] at r
    obtain ⟨v, t, e, r1, r2⟩ := r
    subst e
    simp only [List.cons_append, Reps]
    exact ⟨v, _, rfl, r1, reps_app r2 q⟩
theorem reps_one {d : D} {v : V} (r : Rep G B d v) : Reps G B [d] [v] := by
  simp only [Reps]
  exact ⟨v, [], rfl, r, rfl⟩
theorem reps_nil : Reps G B [] [] := by simp only [Reps]
theorem reps_cons {d : D} {v : V} {ds : List D} {vs : List V} (r : Rep G B d v) (q : Reps G B ds vs) : Reps G B (d :: ds) (v :: vs) := by
  simp only [Reps]
  exact ⟨v, vs, rfl, r, q⟩
theorem reps_set : ∀ {ds : List D} {vs : List V} {i : Nat} {d : D} {v : V}, Reps G B ds vs → Rep G B d v → Reps G B (ds.set i d) (vs.set i v)
  | [], _, _, _, _, r, _ => by simp only [Reps] at r; subst r; simp [Reps]
  | d :: ds, _, 0, x, _, r, q => by
    simp only [Reps] at r
    obtain ⟨v, t, e, _, r2⟩ := r
    subst e
    exact reps_cons q r2
  | d :: ds, _, i + 1, x, _, r, q => by
    simp only [Reps] at r
    obtain ⟨v, t, e, r1, r2⟩ := r
    subst e
    exact reps_cons r1 (reps_set r2 q)
theorem reps_take : ∀ {ds : List D} {vs : List V} (n : Nat), Reps G B ds vs → Reps G B (ds.take n) (vs.take n)
  | [], _, n, r => by simp only [Reps] at r; subst r; simp [Reps]
  | d :: ds, _, 0, r => by simp [Reps]
  | d :: ds, _, n + 1, r => by
    simp only [Reps] at r
    obtain ⟨v, t, e, r1, r2⟩ := r
    subst e
    exact reps_cons r1 (reps_take n r2)
theorem reps_drop : ∀ {ds : List D} {vs : List V} (n : Nat), Reps G B ds vs → Reps G B (ds.drop n) (vs.drop n)
  | [], _, n, r => by simp only [Reps] at r; subst r; simp [Reps]
  | d :: ds, _, 0, r => r
  | d :: ds, _, n + 1, r => by
    simp only [Reps] at r
    obtain ⟨v, t, e, r1, r2⟩ := r
    subst e
    exact reps_drop n r2
theorem reps_rep {ds : List D} {vs : List V} (r : Reps G B ds vs) : ∀ n : Nat, Reps G B (List.replicate n ds).flatten (List.replicate n vs).flatten
  | 0 => by simp [Reps]
  | n + 1 => by
    simp only [List.replicate_succ, List.flatten_cons]
    exact reps_app r (reps_rep r n)
end

/-! ### the visible heap grows -/
/-- B: what is seen (shared, it stays for ever); H: all; new things are new in H -/
structure Ext (B H B' H' : Hp) : Prop where
  i : Same B H
  b : Same B B'
  i' : Same B' H'
  h : Same H H'
  n : ∀ a, H a ≠ none → B' a = B a
theorem Ext.refl {B H : Hp} (i : Same B H) : Ext B H B H := ⟨i, Same.refl _, i, Same.refl _, fun _ _ => rfl⟩
theorem Ext.trans {B H B1 H1 B2 H2 : Hp} (a : Ext B H B1 H1) (b : Ext B1 H1 B2 H2) : Ext B H B2 H2 :=
  ⟨a.i, a.b.trans b.b, b.i', a.h.trans b.h, fun x hx => by
    have h1 : H1 x ≠ none := by
      intro z
      cases e : H x with
      | none => exact hx e
      | some o =>
        rw [a.h x o e] at z
        cases z
    rw [b.n x h1, a.n x hx]⟩
theorem none_of_same {B H : Hp} {p : Addr} (i : Same B H) (hp : H p = none) : B p = none := by
  cases e : B p with
  | none => rfl
  | some o => rw [i p o e] at hp; cases hp
theorem Ext.new {B H : Hp} {p : Addr} {o : HO} (i : Same B H) (hp : H p = none) : Ext B H (upd B p o) (upd H p o) :=
  ⟨i, same_upd (none_of_same i hp), fun a u e => by
    by_cases z : a = p
    · subst z; rw [upd_same] at e ⊢; exact e
    · rw [upd_ne z] at e ⊢; exact i a u e, same_upd hp, fun a ha => by
    have z : a ≠ p := fun z => ha (by rw [z]; exact hp)
    rw [upd_ne z]⟩
/-- new, but not seen -/
theorem Ext.own {B H : Hp} {p : Addr} {o : HO} (i : Same B H) (hp : H p = none) : Ext B H B (upd H p o) :=
  ⟨i, Same.refl _, i.trans (same_upd hp), same_upd hp, fun _ _ => rfl⟩
/-- what was owned is shown -/
theorem Ext.show_ {B H B' H' : Hp} {p : Addr} {o : HO} (e : Ext B H B' H') (hp : H p = none) (h' : H' p = some o) (hb : B' p = none) : Ext B H (upd B' p o) H' :=
  ⟨e.i, e.b.trans (same_upd hb), fun a u q => by
    by_cases z : a = p
    · subst z; rw [upd_same] at q; rw [← q]; exact h'
    · rw [upd_ne z] at q; exact e.i' a u q, e.h, fun a ha => by
    have z : a ≠ p := fun z => ha (by rw [z]; exact hp)
    rw [upd_ne z]
    exact e.n a ha⟩
theorem Ext.fresh {B H B' H' : Hp} {p : Addr} (e : Ext B H B' H') (hp : H' p = none) : H p = none := e.h.free hp

/-! ### errors, the store, a statement's ways out -/
inductive EC where
  | DueError | NoFraction | NoPlan | NoTurns | NoClaimant | NoRow | NoBound | NoNumber | NoStep | NoRunning | NoSentence | NoBook | TooMany | NoText | NoDeed
  deriving DecidableEq
def EC.name : EC → Str
  | .DueError => "DueError" | .NoFraction => "NoFraction" | .NoPlan => "NoPlan" | .NoTurns => "NoTurns" | .NoClaimant => "NoClaimant" | .NoRow => "NoRow" | .NoBound => "NoBound" | .NoNumber => "NoNumber"
  | .NoStep => "NoStep" | .NoRunning => "NoRunning" | .NoSentence => "NoSentence" | .NoBook => "NoBook" | .TooMany => "TooMany" | .NoText => "NoText" | .NoDeed => "NoDeed"
inductive Er where
  | stuck
  | exc (c : EC) (at_ : Option Int)
abbrev M (α : Type) := Except Er α
inductive Sl where
  | sh (d : D)
  | ow (d : D)
  | ex (c : EC) (o : Option Int)
abbrev Sto := List (Option Sl)
inductive Res where
  | nx (ρ : Sto) | rt (s : Sl) | bk (ρ : Sto) | ct (ρ : Sto) | er (e : Er) (ρ : Sto)

/-- an owned thing at p: it may be changed; what it holds is shared -/
def OwAt (G : Gd) (B H : Hp) (p : Addr) : D → Prop
  | .lst ds => ∃ xs, H p = some (.lst xs) ∧ Reps G B ds xs
  | .dic kvs => (∃ t, H p = some (.dT t) ∧ RepT G B kvs t) ∨ (∃ t, H p = some (.dK t) ∧ RepK G B kvs t)
  | _ => False
def ClAt (G : Gd) (B H : Hp) (a : Addr) : Cl → Prop
  | .obj c fs => ∃ C dx gs, G.mg c = some (.ref C) ∧ H a = some (.ins C dx gs) ∧ RepF G B fs gs
  | .lst ds => ∃ xs, H a = some (.lst xs) ∧ Reps G B ds xs
structure TbOk (G : Gd) (B H : Hp) : Prop where
  len : G.al.length = G.mu.length
  nd : ∀ (i j : Nat) (a : Addr), G.al[i]? = some a → G.al[j]? = some a → i = j
  at_ : ∀ (n : Nat) (a : Addr) (c : Cl), G.al[n]? = some a → G.mu[n]? = some c → B a = none ∧ ClAt G B H a c
theorem ClAt.get {G : Gd} {B H : Hp} {a : Addr} {c : Cl} (h : ClAt G B H a c) : ∃ o, H a = some o := by
  cases c with
  | obj c fs => obtain ⟨C, dx, gs, _, e, _⟩ := h; exact ⟨_, e⟩
  | lst ds => obtain ⟨xs, e, _⟩ := h; exact ⟨_, e⟩
theorem ClAt.mono {G : Gd} {B H B' H' : Hp} {a : Addr} {c : Cl} (h : ClAt G B H a c) (b : Same B B') (e : ∀ o, H a = some o → H' a = some o) : ClAt G B' H' a c := by
  cases c with
  | obj c fs => obtain ⟨C, dx, gs, m, q, r⟩ := h; exact ⟨C, dx, gs, m, e _ q, repf_mono b _ _ r⟩
  | lst ds => obtain ⟨xs, q, r⟩ := h; exact ⟨xs, e _ q, reps_mono b _ _ r⟩
theorem TbOk.get {G : Gd} {B H : Hp} (t : TbOk G B H) {a : Addr} (h : a ∈ G.al) : B a = none ∧ ∃ o, H a = some o := by
  obtain ⟨n, hn, e⟩ := List.getElem_of_mem h
  have e1 : G.al[n]? = some a := by rw [List.getElem?_eq_getElem hn, e]
  obtain ⟨h1, h2⟩ := t.at_ n a (G.mu[n]'(by rw [← t.len]; exact hn)) e1 (List.getElem?_eq_getElem _)
  exact ⟨h1, h2.get⟩
theorem TbOk.out {G : Gd} {B H : Hp} (t : TbOk G B H) {a : Addr} (h : H a = none) : a ∉ G.al := fun z => by
  obtain ⟨_, o, e⟩ := t.get z
  rw [h] at e; cases e
theorem TbOk.keep {G : Gd} {B H B' H' : Hp} (t : TbOk G B H) (b : Same B B') (h1 : ∀ a ∈ G.al, B' a = none) (h2 : ∀ a ∈ G.al, ∀ o, H a = some o → H' a = some o) : TbOk G B' H' :=
  ⟨t.len, t.nd, fun n a c e1 e2 => ⟨h1 a (List.mem_of_getElem? e1), (t.at_ n a c e1 e2).2.mono b (h2 a (List.mem_of_getElem? e1))⟩⟩
theorem TbOk.mono {G : Gd} {B H B' H' : Hp} (t : TbOk G B H) (e : Ext B H B' H') : TbOk G B' H' := t.keep e.b (fun a h => by
  obtain ⟨h1, o, h2⟩ := t.get h
  rw [e.n a (by rw [h2]; simp)]; exact h1) fun a _ o q => e.h a o q
def XsAt (G : Gd) (B : Hp) (v : Option (Option V)) (c : EC) (o : Option Int) : Prop := ∃ a cls d, G.ex = some (a, cls, d) ∧ v = some (some (V.ref a)) ∧ G.mg c.name = some cls ∧ (match o with | none => d = none | some n => ∃ dd, d = some dd ∧ B dd = some (.xd [(("at" : Str), .int n)]))
theorem XsAt.mono {G : Gd} {B B' : Hp} {v : Option (Option V)} {c : EC} {o : Option Int} (h : XsAt G B v c o) (s : Same B B') : XsAt G B' v c o := by
  obtain ⟨a, cls, d, h1, h2, h3, h4⟩ := h
  refine ⟨a, cls, d, h1, h2, h3, ?_⟩
  cases o with
  | none => exact h4
  | some n => obtain ⟨dd, e, q⟩ := h4; exact ⟨dd, e, s _ _ q⟩
structure StOk (G : Gd) (B0 H0 B H : Hp) (σ : L2.St) (ρ : Sto) : Prop where
  ext : Ext B0 H0 B H
  len : σ.length = ρ.length
  sh : ∀ (i : Nat) (d : D), ρ[i]? = some (some (Sl.sh d)) → ∃ v, σ[i]? = some (some v) ∧ Rep G B d v
  ow : ∀ (i : Nat) (d : D), ρ[i]? = some (some (Sl.ow d)) → ∃ p, σ[i]? = some (some (V.ref p)) ∧ (H0 p = none ∧ p ∉ G.al) ∧ B p = none ∧ OwAt G B H p d
  ap : ∀ (i j : Nat) (d e : D) (p : Addr), ρ[i]? = some (some (Sl.ow d)) → ρ[j]? = some (some (Sl.ow e)) → σ[i]? = some (some (V.ref p)) → σ[j]? = some (some (V.ref p)) → i = j
  tb : TbOk G B H
  xs : ∀ (i : Nat) (c : EC) (o : Option Int), ρ[i]? = some (some (Sl.ex c o)) → XsAt G B σ[i]? c o
theorem OwAt.get {G : Gd} {B H : Hp} {p : Addr} {d : D} (h : OwAt G B H p d) : ∃ o, H p = some o := by
  cases d with
  | lst ds => obtain ⟨xs, e, _⟩ := h; exact ⟨_, e⟩
  | dic kvs =>
    rcases h with ⟨t, e, _⟩ | ⟨t, e, _⟩
    · exact ⟨_, e⟩
    · exact ⟨_, e⟩
  | _ => exact h.elim
theorem OwAt.mono {G : Gd} {B H B' H' : Hp} {p : Addr} {d : D} (h : OwAt G B H p d) (b : Same B B') (e : ∀ o, H p = some o → H' p = some o) : OwAt G B' H' p d := by
  cases d with
  | lst ds => obtain ⟨xs, q, r⟩ := h; exact ⟨xs, e _ q, reps_mono b _ _ r⟩
  | dic kvs =>
    rcases h with ⟨t, q, r⟩ | ⟨t, q, r⟩
    · exact .inl ⟨t, e _ q, rept_mono b _ _ r⟩
    · exact .inr ⟨t, e _ q, repk_mono b _ _ r⟩
  | _ => exact h.elim
theorem StOk.mono {G : Gd} {B0 H0 B H B' H' : Hp} {σ : L2.St} {ρ : Sto} (S : StOk G B0 H0 B H σ ρ) (e : Ext B H B' H') : StOk G B0 H0 B' H' σ ρ :=
  ⟨S.ext.trans e, S.len, fun i d h => let ⟨v, h1, h2⟩ := S.sh i d h; ⟨v, h1, rep_mono e.b _ _ h2⟩, fun i d h => by
    obtain ⟨p, h1, h2, h3, h4⟩ := S.ow i d h
    obtain ⟨o, ho⟩ := h4.get
    exact ⟨p, h1, h2, by rw [e.n p (by rw [ho]; simp)]; exact h3, h4.mono e.b fun o q => e.h p o q⟩, S.ap, S.tb.mono e, fun i c o h => (S.xs i c o h).mono e.b⟩

/-- an exception's own dict -/
def XD (H H' : Hp) (dA : Option Addr) : Option Int → Prop
  | none => dA = none
  | some i => ∃ d, dA = some d ∧ H d = none ∧ H' d = some (.xd [(("at" : Str), .int i)])
theorem XD.mono {H H1 H' : Hp} {dA : Option Addr} {o : Option Int} (s : Same H H1) (h : XD H1 H' dA o) : XD H H' dA o := by
  cases o with
  | none => exact h
  | some i =>
    obtain ⟨d, e, n, q⟩ := h
    exact ⟨d, e, s.free n, q⟩
def ErOk (G : Gd) (W : WX) (B H : Hp) (σ : L2.St) : Er → Prop
  | .stuck => False
  | .exc c a => ∀ Ca dA B' H', G.mg c.name = some (.ref Ca) → Ext B H B' H' → XD H H' dA a → W (.ref Ca) dA σ H'
theorem ErOk.mono {G : Gd} {W : WX} {B H B1 H1 : Hp} {σ : L2.St} {e : Er} (h : ErOk G W B H σ e) (x : Ext B H B1 H1) : ErOk G W B1 H1 σ e := by
  cases e with
  | stuck => exact h
  | exc c a => exact fun Ca dA B' H' m q d => h Ca dA B' H' m (x.trans q) (d.mono x.h)

/-! ### readings -/
def DPost (G : Gd) (W : WX) (B H : Hp) (σ : L2.St) (Q : VK) : M D → Prop
  | .ok d => ∀ v B' H', Ext B H B' H' → Rep G B' d v → Q v H'
  | .error e => ErOk G W B H σ e
def TD (G : Gd) (W : WX) (f : Sto → M D) : TE := fun σ H Q => ∃ B0 H0 B ρ, StOk G B0 H0 B H σ ρ ∧ DPost G W B H σ Q (f ρ)
/-- a new thing of one's own -/
def FPost (G : Gd) (W : WX) (B H : Hp) (σ : L2.St) (Q : VK) : M D → Prop
  | .ok d => ∀ p B' H', Ext B H B' H' → H p = none → B' p = none → OwAt G B' H' p d → Q (.ref p) H'
  | .error e => ErOk G W B H σ e
def TF (G : Gd) (W : WX) (f : Sto → M D) : TE := fun σ H Q => ∃ B0 H0 B ρ, StOk G B0 H0 B H σ ρ ∧ FPost G W B H σ Q (f ρ)
def BPost (G : Gd) (W : WX) (B H : Hp) (σ : L2.St) (Q : Bool → Hp → Prop) : M Bool → Prop
  | .ok b => ∀ B' H', Ext B H B' H' → Q b H'
  | .error e => ErOk G W B H σ e
def TB (G : Gd) (W : WX) (f : Sto → M Bool) : TT := fun σ H Q => ∃ B0 H0 B ρ, StOk G B0 H0 B H σ ρ ∧ BPost G W B H σ Q (f ρ)
def APost (G : Gd) (W : WX) (B H : Hp) (σ : L2.St) (Q : List V → Hp → Prop) : M (List D) → Prop
  | .ok ds => ∀ vs B' H', Ext B H B' H' → Reps G B' ds vs → Q vs H'
  | .error e => ErOk G W B H σ e
def TAD (G : Gd) (W : WX) (f : Sto → M (List D)) : TA := fun σ H Q => ∃ B0 H0 B ρ, StOk G B0 H0 B H σ ρ ∧ APost G W B H σ Q (f ρ)
def RtOk (G : Gd) (B0 H0 : Hp) (Q : VK) : Sl → Prop
  | .sh d => ∀ v B' H', Ext B0 H0 B' H' → Rep G B' d v → Q v H'
  | .ow d => ∀ p B' H', Ext B0 H0 B' H' → H0 p = none → B' p = none → OwAt G B' H' p d → Q (.ref p) H'
  | .ex _ _ => False
def SPost (G : Gd) (W : WX) (B0 H0 : Hp) (Dn : Ends) : Res → Prop
  | .nx ρ => ∀ σ B H, StOk G B0 H0 B H σ ρ → Dn.nx σ H
  | .rt s => RtOk G B0 H0 Dn.rt s
  | .bk ρ => ∀ σ B H, StOk G B0 H0 B H σ ρ → Dn.bk σ H
  | .ct ρ => ∀ σ B H, StOk G B0 H0 B H σ ρ → Dn.ct σ H
  | .er e ρ => ∀ σ B H, StOk G B0 H0 B H σ ρ → ErOk G W B H σ e
def TSD (G : Gd) (W : WX) (g : Sto → Res) : TS := fun Dn σ H => ∃ B0 H0 B ρ, StOk G B0 H0 B H σ ρ ∧ SPost G W B0 H0 Dn (g ρ)
end DL

namespace DL
open PySem PySem.Spec PyProof.Rows L2

abbrev gd (X : Cx) (al : List Addr) (mu : Tbl) (ex : Option XV) : Gd := ⟨X.K, X.mg, al, mu, ex⟩
def opt {α : Type} : Option α → M α
  | some a => .ok a
  | none => .error .stuck
def noex {α : Type} : M α → M α
  | .ok a => .ok a
  | .error _ => .error .stuck

/-! ### a value that may be read: shared, or a thing of one's own -/
def Rdb (G : Gd) (B H : Hp) (d : D) (v : V) : Prop := Rep G B d v ∨ ∃ p, v = .ref p ∧ B p = none ∧ OwAt G B H p d
section
variable {G : Gd} {B H B' H' : Hp} {d : D} {v : V} {ds : List D}
theorem Rdb.mono (r : Rdb G B H d v) (e : Ext B H B' H') : Rdb G B' H' d v := by
  rcases r with r | ⟨p, h1, h2, h3⟩
  · exact .inl (rep_mono e.b _ _ r)
  · obtain ⟨o, ho⟩ := h3.get
    exact .inr ⟨p, h1, by rw [e.n p (by rw [ho]; simp)]; exact h2, h3.mono e.b fun o q => e.h p o q⟩
theorem rdb_int {i : Int} (r : Rdb G B H (.int i) v) : v = .int i := by
  rcases r with r | ⟨p, _, _, h3⟩
  · simpa only [Rep] using r
  · exact h3.elim
theorem rdb_bl {i : Bool} (r : Rdb G B H (.bl i) v) : v = .bl i := by
  rcases r with r | ⟨p, _, _, h3⟩
  · simpa only [Rep] using r
  · exact h3.elim
theorem rdb_str {i : Str} (r : Rdb G B H (.str i) v) : v = .str i := by
  rcases r with r | ⟨p, _, _, h3⟩
  · simpa only [Rep] using r
  · exact h3.elim
theorem rdb_non (r : Rdb G B H .non v) : v = .non := by
  rcases r with r | ⟨p, _, _, h3⟩
  · simpa only [Rep] using r
  · exact h3.elim
theorem rdb_lst (s : Same B H) (r : Rdb G B H (.lst ds) v) : ∃ a xs, v = .ref a ∧ H a = some (.lst xs) ∧ Reps G B ds xs := by
  rcases r with r | ⟨p, h1, _, h3⟩
  · simp only [Rep] at r
    obtain ⟨a, xs, e, q, rs⟩ := r
    exact ⟨a, xs, e, s _ _ q, rs⟩
  · obtain ⟨xs, q, rs⟩ := h3
    exact ⟨p, xs, h1, q, rs⟩
theorem rdb_fls (s : Same B H) (r : Rdb G B H (.fls ds) v) : ∃ a xs, v = .ref a ∧ SqL G.K H a xs ∧ Reps G B ds xs := by
  rcases r with r | ⟨p, h1, _, h3⟩
  · simp only [Rep] at r
    obtain ⟨a, xs, e, q, rs⟩ := r
    exact ⟨a, xs, e, sql_mono s q, rs⟩
  · exact h3.elim
theorem rdb_tup (s : Same B H) (r : Rdb G B H (.tup ds) v) : ∃ a xs, v = .ref a ∧ H a = some (.tup xs) ∧ B a = some (.tup xs) ∧ Reps G B ds xs := by
  rcases r with r | ⟨p, h1, _, h3⟩
  · simp only [Rep] at r
    obtain ⟨a, xs, e, q, rs⟩ := r
    exact ⟨a, xs, e, s _ _ q, q, rs⟩
  · exact h3.elim
theorem rdb_ctp (s : Same B H) (r : Rdb G B H (.ctp ds) v) : ∃ a xs, v = .ref a ∧ SqT G.K H a xs ∧ Reps G B ds xs := by
  rcases r with r | ⟨p, h1, _, h3⟩
  · simp only [Rep] at r
    obtain ⟨a, xs, e, q, rs⟩ := r
    exact ⟨a, xs, e, sqt_mono s q, rs⟩
  · exact h3.elim
/-- the items of a list or tuple -/
def D.items : D → Option (List D)
  | .lst ds => some ds
  | .fls ds => some ds
  | .tup ds => some ds
  | .ctp ds => some ds
  | _ => none
theorem rdb_seq (s : Same B H) (r : Rdb G B H d v) (hi : d.items = some ds) : ∃ a xs, v = .ref a ∧ (SqL G.K H a xs ∨ SqT G.K H a xs) ∧ Reps G B ds xs := by
  cases d with
  | lst es => cases hi; obtain ⟨a, xs, e, q, rs⟩ := rdb_lst s r; exact ⟨a, xs, e, .inl (.of q), rs⟩
  | fls es => cases hi; obtain ⟨a, xs, e, q, rs⟩ := rdb_fls s r; exact ⟨a, xs, e, .inl q, rs⟩
  | tup es => cases hi; obtain ⟨a, xs, e, q, _, rs⟩ := rdb_tup s r; exact ⟨a, xs, e, .inr (.of q), rs⟩
  | ctp es => cases hi; obtain ⟨a, xs, e, q, rs⟩ := rdb_ctp s r; exact ⟨a, xs, e, .inr q, rs⟩
  | _ => cases hi
theorem rep_int {i : Int} : Rep G B (.int i) (.int i) := by simp only [Rep]
theorem rep_bl {i : Bool} : Rep G B (.bl i) (.bl i) := by simp only [Rep]
theorem rep_str {i : Str} : Rep G B (.str i) (.str i) := by simp only [Rep]
theorem rep_non : Rep G B .non .non := by simp only [Rep]
theorem rep_lst {a : Addr} {xs : List V} (h : B a = some (.lst xs)) (r : Reps G B ds xs) : Rep G B (.lst ds) (.ref a) := by
  simp only [Rep]
  exact ⟨a, xs, rfl, h, r⟩
theorem rep_tup {a : Addr} {xs : List V} (h : B a = some (.tup xs)) (r : Reps G B ds xs) : Rep G B (.tup ds) (.ref a) := by
  simp only [Rep]
  exact ⟨a, xs, rfl, h, r⟩
end
def Rdbs (G : Gd) (B H : Hp) : List D → List V → Prop
  | [], vs => vs = []
  | d :: ds, vs => ∃ v r, vs = v :: r ∧ Rdb G B H d v ∧ Rdbs G B H ds r
theorem Rdbs.mono {G : Gd} {B H B' H' : Hp} (e : Ext B H B' H') : ∀ {ds : List D} {vs : List V}, Rdbs G B H ds vs → Rdbs G B' H' ds vs
  | [], _, r => r
  | _ :: _, _, ⟨v, t, h, r, q⟩ => ⟨v, t, h, r.mono e, Rdbs.mono e q⟩
theorem Rdbs.of_reps {G : Gd} {B H : Hp} : ∀ {ds : List D} {vs : List V}, Reps G B ds vs → Rdbs G B H ds vs
  | [], _, r => by simp only [Reps] at r; exact r
  | _ :: _, _, r => by
    simp only [Reps] at r
    obtain ⟨v, t, h, r1, q⟩ := r
    exact ⟨v, t, h, .inl r1, Rdbs.of_reps q⟩

/-! ### readings of what is read -/
def RPost (G : Gd) (W : WX) (B H : Hp) (σ : L2.St) (Q : VK) : M D → Prop
  | .ok d => ∀ v B' H', Ext B H B' H' → Rdb G B' H' d v → Q v H'
  | .error e => ErOk G W B H σ e
def TR (G : Gd) (W : WX) (f : Sto → M D) : TE := fun σ H Q => ∃ B0 H0 B ρ, StOk G B0 H0 B H σ ρ ∧ RPost G W B H σ Q (f ρ)
def ARPost (G : Gd) (W : WX) (B H : Hp) (σ : L2.St) (Q : List V → Hp → Prop) : M (List D) → Prop
  | .ok ds => ∀ vs B' H', Ext B H B' H' → Rdbs G B' H' ds vs → Q vs H'
  | .error e => ErOk G W B H σ e
def TAR (G : Gd) (W : WX) (f : Sto → M (List D)) : TA := fun σ H Q => ∃ B0 H0 B ρ, StOk G B0 H0 B H σ ρ ∧ ARPost G W B H σ Q (f ρ)
theorem _root_.L2.PE.wk {X : Cx} {e : Expr} {t t' : TE} (h : PE X e t) (k : ∀ σ H Q, t' σ H Q → t σ H Q) : PE X e t' := ⟨fun pins s σ H Q I q => h.run pins s σ H Q I (k σ H Q q)⟩
theorem _root_.L2.PT.wk {X : Cx} {e : Expr} {t t' : TT} (h : PT X e t) (k : ∀ σ H Q, t' σ H Q → t σ H Q) : PT X e t' := ⟨fun pins s σ H Q I q => h.run pins s σ H Q I (k σ H Q q)⟩
theorem _root_.L2.PA.wk {X : Cx} {e : List Expr} {t t' : TA} (h : PA X e t) (k : ∀ σ H Q, t' σ H Q → t σ H Q) : PA X e t' := ⟨fun pos pins s σ H Q I q => h.run pos pins s σ H Q I (k σ H Q q)⟩
theorem _root_.L2.PS.wk {X : Cx} {e : Stmt} {t t' : TS} (h : PS X e t) (k : ∀ D σ H, t' D σ H → t D σ H) : PS X e t' := ⟨fun pins s σ H D I q => h.run pins s σ H D I (k D σ H q)⟩
theorem _root_.L2.PSs.wk {X : Cx} {e : List Stmt} {t t' : TS} (h : PSs X e t) (k : ∀ D σ H, t' D σ H → t D σ H) : PSs X e t' := ⟨fun pins s σ H D I q => h.run pins s σ H D I (k D σ H q)⟩
theorem _root_.L2.PG.wk {X : Cx} {e : Expr} {t t' : TG} (h : PG X e t) (k : ∀ v σ H Q, t' v σ H Q → t v σ H Q) : PG X e t' := ⟨fun pins s σ H v u Q I r q => h.run pins s σ H v u Q I r (k v σ H Q q)⟩
theorem _root_.L2.PGs.wk {X : Cx} {e : List Expr} {t t' : TGs} (h : PGs X e t) (k : ∀ v σ H Q, t' v σ H Q → t v σ H Q) : PGs X e t' := ⟨fun pins s σ H v u Q I r q => h.run pins s σ H v u Q I r (k v σ H Q q)⟩
theorem _root_.L2.PI.wk {X : Cx} {tg e : Expr} {t t' : TI} (h : PI X tg e t) (k : ∀ σ H Q, t' σ H Q → t σ H Q) : PI X tg e t' := ⟨fun pins s σ H Q I q => h.run pins s σ H Q I (k σ H Q q)⟩

section
variable {G : Gd} {W : WX} {B0 H0 B H : Hp} {σ : L2.St} {ρ : Sto}
theorem tr_i {f : Sto → M D} {Q : VK} (S : StOk G B0 H0 B H σ ρ) (hE : ∀ e, f ρ = .error e → ErOk G W B H σ e) (k : ∀ v H1 B1 d, Ext B H B1 H1 → Rdb G B1 H1 d v → f ρ = .ok d → Q v H1) : TR G W f σ H Q := by
  refine ⟨B0, H0, B, ρ, S, ?_⟩
  cases hf : f ρ with
  | ok d => exact fun v B' H' x r => k v H' B' d x r hf
  | error e => exact hE e hf
theorem td_i {f : Sto → M D} {Q : VK} (S : StOk G B0 H0 B H σ ρ) (hE : ∀ e, f ρ = .error e → ErOk G W B H σ e) (k : ∀ v H1 B1 d, Ext B H B1 H1 → Rep G B1 d v → f ρ = .ok d → Q v H1) : TD G W f σ H Q := by
  refine ⟨B0, H0, B, ρ, S, ?_⟩
  cases hf : f ρ with
  | ok d => exact fun v B' H' x r => k v H' B' d x r hf
  | error e => exact hE e hf
theorem tf_i {f : Sto → M D} {Q : VK} (S : StOk G B0 H0 B H σ ρ) (hE : ∀ e, f ρ = .error e → ErOk G W B H σ e) (k : ∀ p H1 B1 d, Ext B H B1 H1 → H p = none → B1 p = none → OwAt G B1 H1 p d → f ρ = .ok d → Q (.ref p) H1) : TF G W f σ H Q := by
  refine ⟨B0, H0, B, ρ, S, ?_⟩
  cases hf : f ρ with
  | ok d => exact fun p B' H' x h1 h2 h3 => k p H' B' d x h1 h2 h3 hf
  | error e => exact hE e hf
theorem tb_i {f : Sto → M Bool} {Q : Bool → Hp → Prop} (S : StOk G B0 H0 B H σ ρ) (hE : ∀ e, f ρ = .error e → ErOk G W B H σ e) (k : ∀ b H1 B1, Ext B H B1 H1 → f ρ = .ok b → Q b H1) : TB G W f σ H Q := by
  refine ⟨B0, H0, B, ρ, S, ?_⟩
  cases hf : f ρ with
  | ok d => exact fun B' H' x => k d H' B' x hf
  | error e => exact hE e hf
theorem tar_i {f : Sto → M (List D)} {Q : List V → Hp → Prop} (S : StOk G B0 H0 B H σ ρ) (hE : ∀ e, f ρ = .error e → ErOk G W B H σ e) (k : ∀ vs H1 B1 ds, Ext B H B1 H1 → Rdbs G B1 H1 ds vs → f ρ = .ok ds → Q vs H1) : TAR G W f σ H Q := by
  refine ⟨B0, H0, B, ρ, S, ?_⟩
  cases hf : f ρ with
  | ok d => exact fun v B' H' x r => k v H' B' d x r hf
  | error e => exact hE e hf
theorem tad_i {f : Sto → M (List D)} {Q : List V → Hp → Prop} (S : StOk G B0 H0 B H σ ρ) (hE : ∀ e, f ρ = .error e → ErOk G W B H σ e) (k : ∀ vs H1 B1 ds, Ext B H B1 H1 → Reps G B1 ds vs → f ρ = .ok ds → Q vs H1) : TAD G W f σ H Q := by
  refine ⟨B0, H0, B, ρ, S, ?_⟩
  cases hf : f ρ with
  | ok d => exact fun v B' H' x r => k v H' B' d x r hf
  | error e => exact hE e hf
theorem freeze_rep {p : Addr} {d : D} {B' H' : Hp} (x : Ext B H B' H') (h1 : H p = none) (h2 : B' p = none) (h3 : OwAt G B' H' p d) : ∃ B'', Ext B H B'' H' ∧ Rep G B'' d (.ref p) := by
  cases d with
  | lst ds =>
    obtain ⟨xs, q, r⟩ := h3
    refine ⟨upd B' p (.lst xs), x.show_ h1 q h2, rep_lst upd_same (reps_mono (same_upd h2) _ _ r)⟩
  | dic kvs =>
    rcases h3 with ⟨t, q, r⟩ | ⟨t, q, r⟩
    · refine ⟨upd B' p (.dT t), x.show_ h1 q h2, ?_⟩
      simp only [Rep]
      exact ⟨p, rfl, .inl ⟨t, .inl upd_same, rept_mono (same_upd h2) _ _ r⟩⟩
    · refine ⟨upd B' p (.dK t), x.show_ h1 q h2, ?_⟩
      simp only [Rep]
      exact ⟨p, rfl, .inr ⟨t, .inl upd_same, repk_mono (same_upd h2) _ _ r⟩⟩
  | _ => exact h3.elim
end

section
variable {X : Cx} {W : WX} {e : Expr} {f : Sto → M D}
theorem rd (h : PE X e (TD (gd X al mu ex) W f)) : PE X e (TR (gd X al mu ex) W f) := h.wk fun σ H Q ⟨B0, H0, B, ρ, S, q⟩ => td_i S (fun er he => by rw [he] at q; exact q) fun v H1 B1 d x r hf => by rw [hf] at q; exact q v B1 H1 x (.inl r)
theorem fz (h : PE X e (TF (gd X al mu ex) W f)) : PE X e (TD (gd X al mu ex) W f) := h.wk fun σ H Q ⟨B0, H0, B, ρ, S, q⟩ => tf_i S (fun er he => by rw [he] at q; exact q) fun p H1 B1 d x h1 h2 h3 hf => by
  rw [hf] at q
  obtain ⟨B2, x2, r⟩ := freeze_rep x h1 h2 h3
  exact q _ B2 H1 x2 r
end

/-! ### names, constants -/
def eVar (i : Nat) : Sto → M D := fun ρ => match ρ[i]? with
  | some (some (.sh d)) => .ok d
  | _ => .error .stuck
def eRd (i : Nat) : Sto → M D := fun ρ => match ρ[i]? with
  | some (some (.sh d)) => .ok d
  | some (some (.ow d)) => .ok d
  | _ => .error .stuck
def eC (d : D) : Sto → M D := fun _ => .ok d
section
variable {X : Cx} {W : WX} {pos : Pos}
theorem de_var (i : Nat) {x : Str} (hN : X.N[i]? = some x := by rfl) (hv : Vis X.env.scope x := by first | exact Or.inl rfl | exact Or.inr (Or.inl rfl) | exact Or.inr (Or.inr rfl)) (hd : (x == ("__debug__" : Str)) = false := by decide)
    (hcd : (x == ("__classdict__" : Str)) = false := by decide) : PE X (.Name x pos) (TD (gd X al mu ex) W (eVar i)) := (pe_var hN hv hd hcd).wk fun σ H Q ⟨B0, H0, B, ρ, S, q⟩ => by
  unfold eVar at q
  cases h : ρ[i]? with
  | none => rw [h] at q; exact q.elim
  | some o =>
    cases o with
    | none => rw [h] at q; exact q.elim
    | some sl =>
      cases sl with
      | sh d =>
        rw [h] at q
        obtain ⟨v, h1, h2⟩ := S.sh i d h
        exact ⟨v, h1, q v B H (Ext.refl S.ext.i') h2⟩
      | ow d => rw [h] at q; exact q.elim
      | ex c o => rw [h] at q; exact q.elim
theorem dr_var (i : Nat) {x : Str} (hN : X.N[i]? = some x := by rfl) (hv : Vis X.env.scope x := by first | exact Or.inl rfl | exact Or.inr (Or.inl rfl) | exact Or.inr (Or.inr rfl)) (hd : (x == ("__debug__" : Str)) = false := by decide)
    (hcd : (x == ("__classdict__" : Str)) = false := by decide) : PE X (.Name x pos) (TR (gd X al mu ex) W (eRd i)) := (pe_var hN hv hd hcd).wk fun σ H Q ⟨B0, H0, B, ρ, S, q⟩ => by
  unfold eRd at q
  cases h : ρ[i]? with
  | none => rw [h] at q; exact q.elim
  | some o =>
    cases o with
    | none => rw [h] at q; exact q.elim
    | some sl =>
      cases sl with
      | sh d =>
        rw [h] at q
        obtain ⟨v, h1, h2⟩ := S.sh i d h
        exact ⟨v, h1, q v B H (Ext.refl S.ext.i') (.inl h2)⟩
      | ow d =>
        rw [h] at q
        obtain ⟨p, h1, h2, h3, h4⟩ := S.ow i d h
        exact ⟨_, h1, q _ B H (Ext.refl S.ext.i') (.inr ⟨p, rfl, h3, h4⟩)⟩
      | ex c o => rw [h] at q; exact q.elim
theorem de_int {i : Int} {j} : PE X (.Constant (.int i) j pos) (TD (gd X al mu ex) W (eC (.int i))) := pe_int.wk fun σ H Q ⟨B0, H0, B, ρ, S, q⟩ => q _ B H (Ext.refl S.ext.i') rep_int
theorem de_bl {i : Bool} {j} : PE X (.Constant (.bool i) j pos) (TD (gd X al mu ex) W (eC (.bl i))) := pe_bl.wk fun σ H Q ⟨B0, H0, B, ρ, S, q⟩ => q _ B H (Ext.refl S.ext.i') rep_bl
theorem de_non {j} : PE X (.Constant .none j pos) (TD (gd X al mu ex) W (eC .non)) := pe_non.wk fun σ H Q ⟨B0, H0, B, ρ, S, q⟩ => q _ B H (Ext.refl S.ext.i') rep_non
theorem de_str {i : Str} {j} : PE X (.Constant (.str i) j pos) (TD (gd X al mu ex) W (eC (.str i))) := pe_str.wk fun σ H Q ⟨B0, H0, B, ρ, S, q⟩ => q _ B H (Ext.refl S.ext.i') rep_str
/-- a module's constant that is an int, a text -/
theorem de_globI {x : Str} {i : Int} {t : Tok} (hg : Gl X x) (hm : X.mg x = some (.int i t)) (hd : (x == ("__debug__" : Str)) = false := by decide) : PE X (.Name x pos) (TD (gd X al mu ex) W (eC (.int i))) := (pe_glob (v := .int i) hg hm ⟨t, rfl⟩ hd).wk fun σ H Q ⟨B0, H0, B, ρ, S, q⟩ => q _ B H (Ext.refl S.ext.i') rep_int
theorem de_globS {x : Str} {i : Str} {t : Tok} (hg : Gl X x) (hm : X.mg x = some (.str i t)) (hd : (x == ("__debug__" : Str)) = false := by decide) : PE X (.Name x pos) (TD (gd X al mu ex) W (eC (.str i))) := (pe_glob (v := .str i) hg hm ⟨t, rfl⟩ hd).wk fun σ H Q ⟨B0, H0, B, ρ, S, q⟩ => q _ B H (Ext.refl S.ext.i') rep_str
/-- .. that is a tuple of flat things, written -/
theorem de_globT {x : Str} {a : Addr} {xs : List V} {ds : List D} (hg : Gl X x) (hm : X.mg x = some (.ref a)) (hT : ∀ H, SqT X.K H a xs) (hr : ∀ B, Reps (gd X al mu ex) B ds xs) (hd : (x == ("__debug__" : Str)) = false := by decide) : PE X (.Name x pos) (TD (gd X al mu ex) W (eC (.ctp ds))) := (pe_glob (v := .ref a) hg hm rfl hd).wk fun σ H Q ⟨B0, H0, B, ρ, S, q⟩ => q _ B H (Ext.refl S.ext.i') (by simp only [Rep]; exact ⟨a, xs, rfl, hT B, hr B⟩)
end
end DL

namespace DL
open PySem PySem.Spec PyProof.Rows L2

/-! ### two values -/
def OpI (G : Gd) (r : R2) (g : D → D → Option D) : Prop := ∀ B H d e x y z Q, Same B H → Rdb G B H d x → Rdb G B H e y → g d e = some z → (∀ v B' H', Ext B H B' H' → Rep G B' z v → Q v H') → r x y H Q
def eBin (g : D → D → Option D) (f1 f2 : Sto → M D) : Sto → M D := fun ρ => (f1 ρ).bind fun a => (f2 ρ).bind fun b => opt (g a b)
theorem bin_tr {G : Gd} {W : WX} {r : R2} {g : D → D → Option D} {f1 f2 : Sto → M D} (hg : OpI G r g) : ∀ σ H Q, TD G W (eBin g f1 f2) σ H Q → tOp r (TR G W f1) (TR G W f2) σ H Q := fun σ H Q ⟨B0, H0, B, ρ, S, q⟩ => by
  refine tr_i S (fun er he => ?_) fun x H1 B1 d x1 r1 e1 => tr_i (S.mono x1) (fun er he => ?_) fun y H2 B2 e x2 r2 e2 => ?_
  · have z : eBin g f1 f2 ρ = .error er := by unfold eBin; rw [he]; rfl
    rw [z] at q; exact q
  · have z : eBin g f1 f2 ρ = .error er := by unfold eBin; rw [e1, he]; rfl
    rw [z] at q; exact ErOk.mono q x1
  · have z : eBin g f1 f2 ρ = opt (g d e) := by unfold eBin; rw [e1, e2]; rfl
    rw [z] at q
    cases hz : g d e with
    | none => rw [hz] at q; exact q.elim
    | some w =>
      rw [hz] at q
      exact hg B2 H2 d e x y w Q x2.i' (r1.mono x2) r2 hz fun v B' H' x3 r3 => q v B' H' ((x1.trans x2).trans x3) r3
section
variable {X : Cx} {W : WX} {a b c : Expr} {f1 f2 f3 : Sto → M D} {pos : Pos}
theorem de_op {op : Operator} {r : R2} {g : D → D → Option D} (hg : OpI (gd X al mu ex) r g) (ho : OpR X (binaryOp op) r) (ha : PE X a (TR (gd X al mu ex) W f1)) (hb : PE X b (TR (gd X al mu ex) W f2)) : PE X (.BinOp a op b pos) (TD (gd X al mu ex) W (eBin g f1 f2)) :=
  (pe_op ho ha hb).wk (bin_tr hg)
theorem de_cmp {op : CmpOp} {r : R2} {g : D → D → Option D} (hg : OpI (gd X al mu ex) r g) (ho : OpR X (compareOp op) r) (ha : PE X a (TR (gd X al mu ex) W f1)) (hb : PE X b (TR (gd X al mu ex) W f2)) (hm : behindInMarks op b = false := by first | exact nomark _ | rfl) : PE X (.Compare a [op] [b] pos) (TD (gd X al mu ex) W (eBin g f1 f2)) :=
  (pe_cmpR ho ha hb hm).wk (bin_tr hg)
/-! ### tests -/
def asB : M D → M Bool
  | .ok (.bl b) => .ok b
  | .ok _ => .error .stuck
  | .error e => .error e
def bV (f : Sto → M D) : Sto → M Bool := fun ρ => asB (f ρ)
theorem td_of_b {G : Gd} {f : Sto → M D} {σ : L2.St} {H : Hp} {Q : Bool → Hp → Prop} (h : TB G W (bV f) σ H Q) : TD G W f σ H (fun x H' => ∃ k, x = .bl k ∧ Q k H') := by
  obtain ⟨B0, H0, B, ρ, S, q⟩ := h
  unfold bV at q
  refine td_i S (fun er he => by rw [he] at q; exact q) fun v H1 B1 d x r e => ?_
  rw [e] at q
  cases d with
  | bl k =>
    simp only [Rep] at r
    exact ⟨k, r, q B1 H1 x⟩
  | _ => exact q.elim
theorem db_cmp {op : CmpOp} {r : R2} {g : D → D → Option D} (hg : OpI (gd X al mu ex) r g) (ho : OpR X (compareOp op) r) (ha : PE X a (TR (gd X al mu ex) W f1)) (hb : PE X b (TR (gd X al mu ex) W f2)) (hm : behindInMarks op b = false := by first | exact nomark _ | rfl) : PT X (.Compare a [op] [b] pos) (TB (gd X al mu ex) W (bV (eBin g f1 f2))) :=
  (pt_cmpR ho ha hb hm).wk fun σ H Q h => bin_tr hg σ H _ (td_of_b h)
/-- an expression whose value is a bool -/
theorem db_val {e : Expr} {f : Sto → M D} (h : PE X e (TD (gd X al mu ex) W f)) (he : ∀ whole, isTrue e X.env whole = (do let v ← whole; standAt e.pos; holding [v] (truthy v)) := by intro _; rfl) : PT X e (TB (gd X al mu ex) W (bV f)) :=
  (pt_val h he).wk fun σ H Q q => td_of_b q
def bAnd (f g : Sto → M Bool) : Sto → M Bool := fun ρ => (f ρ).bind fun k => if k then g ρ else .ok false
def bOr (f g : Sto → M Bool) : Sto → M Bool := fun ρ => (f ρ).bind fun k => if k then .ok true else g ρ
def bNot (f : Sto → M Bool) : Sto → M Bool := fun ρ => (f ρ).bind fun k => .ok (!k)
variable {rest : List Expr} {g1 g2 : Sto → M Bool}
theorem db_not (h : PT X a (TB (gd X al mu ex) W g1)) : PT X (.UnaryOp .Not a pos) (TB (gd X al mu ex) W (bNot g1)) := (pt_not h).wk fun σ H Q ⟨B0, H0, B, ρ, S, q⟩ => by
  unfold bNot at q
  refine tb_i S (fun er he => by rw [he] at q; exact q) fun b H1 B1 x e => ?_
  rw [e] at q
  exact q B1 H1 x
theorem wb_and (h1 : PT X a (TB (gd X al mu ex) W g1)) (h2 : PW X (.BoolOp .And (b :: rest) pos) (TB (gd X al mu ex) W g2)) : PW X (.BoolOp .And (a :: b :: rest) pos) (TB (gd X al mu ex) W (bAnd g1 g2)) := ⟨fun wh pins s σ H Q I h => (pw_and h1 h2).run wh pins s σ H Q I (by
  obtain ⟨B0, H0, B, ρ, S, q⟩ := h
  unfold bAnd at q
  refine tb_i S (fun er he => by rw [he] at q; exact q) fun k H1 B1 x e => ?_
  rw [e] at q
  cases k with
  | true =>
    show TB (gd X al mu ex) W g2 σ H1 Q
    refine tb_i (S.mono x) (fun er he => ?_) fun k2 H2 B2 x2 e2 => ?_
    · have q' : BPost (gd X al mu ex) W B H σ Q (g2 ρ) := q
      rw [he] at q'; exact ErOk.mono q' x
    · have q' : BPost (gd X al mu ex) W B H σ Q (g2 ρ) := q
      rw [e2] at q'; exact q' B2 H2 (x.trans x2)
  | false => exact q B1 H1 x)⟩
theorem wb_or (h1 : PT X a (TB (gd X al mu ex) W g1)) (h2 : PW X (.BoolOp .Or (b :: rest) pos) (TB (gd X al mu ex) W g2)) : PW X (.BoolOp .Or (a :: b :: rest) pos) (TB (gd X al mu ex) W (bOr g1 g2)) := ⟨fun wh pins s σ H Q I h => (pw_or h1 h2).run wh pins s σ H Q I (by
  obtain ⟨B0, H0, B, ρ, S, q⟩ := h
  unfold bOr at q
  refine tb_i S (fun er he => by rw [he] at q; exact q) fun k H1 B1 x e => ?_
  rw [e] at q
  cases k with
  | false =>
    show TB (gd X al mu ex) W g2 σ H1 Q
    refine tb_i (S.mono x) (fun er he => ?_) fun k2 H2 B2 x2 e2 => ?_
    · have q' : BPost (gd X al mu ex) W B H σ Q (g2 ρ) := q
      rw [he] at q'; exact ErOk.mono q' x
    · have q' : BPost (gd X al mu ex) W B H σ Q (g2 ρ) := q
      rw [e2] at q'; exact q' B2 H2 (x.trans x2)
  | true => exact q B1 H1 x)⟩
theorem wb_and1 (h1 : PT X a (TB (gd X al mu ex) W g1)) : PW X (.BoolOp .And [a] pos) (TB (gd X al mu ex) W g1) := pw_and1 h1
theorem wb_or1 (h1 : PT X a (TB (gd X al mu ex) W g1)) : PW X (.BoolOp .Or [a] pos) (TB (gd X al mu ex) W g1) := pw_or1 h1
/-! ### and, or, not as values -/
def eAnd (f g : Sto → M D) : Sto → M D := fun ρ => (asB (f ρ)).bind fun k => if k then g ρ else .ok (.bl false)
def eOr (f g : Sto → M D) : Sto → M D := fun ρ => (asB (f ρ)).bind fun k => if k then .ok (.bl true) else g ρ
def eNot (f : Sto → M D) : Sto → M D := fun ρ => (asB (f ρ)).bind fun k => .ok (.bl (!k))
theorem rep_b {G : Gd} {B : Hp} {d : D} {v : V} (r : Rep G B d v) {k : Bool} (e : asB (.ok d) = .ok k) : v = .bl k := by
  cases d with
  | bl b =>
    simp only [Rep] at r
    have e' : b = k := by injection e
    rw [← e']; exact r
  | _ => exact absurd e (by intro z; cases z)
theorem asB_cases (f : M D) : (∃ e, f = .error e) ∨ (∃ d, f = .ok d ∧ asB f = .error .stuck) ∨ ∃ k, f = .ok (.bl k) := by
  cases f with
  | error e => exact .inl ⟨e, rfl⟩
  | ok d => cases d with
    | bl k => exact .inr (.inr ⟨k, rfl⟩)
    | _ => exact .inr (.inl ⟨_, rfl, rfl⟩)
theorem de_and (h1 : PE X a (TD (gd X al mu ex) W f1)) (h2 : PE X (.BoolOp .And (b :: rest) pos) (TD (gd X al mu ex) W f2)) : PE X (.BoolOp .And (a :: b :: rest) pos) (TD (gd X al mu ex) W (eAnd f1 f2)) := (pe_and h1 h2).wk fun σ H Q ⟨B0, H0, B, ρ, S, q⟩ => by
  unfold eAnd at q
  rcases asB_cases (f1 ρ) with ⟨er, e⟩ | ⟨d, e, e'⟩ | ⟨k, e⟩
  · rw [e] at q
    exact td_i S (fun er' he => by rw [e] at he; cases he; exact q) fun v H1 B1 d x r he => by rw [e] at he; cases he
  · rw [e'] at q; exact q.elim
  · refine td_i S (fun er' he => by rw [e] at he; cases he) fun v H1 B1 d x r he => ?_
    rw [e] at he; cases he
    rw [e] at q
    simp only [Rep] at r
    refine ⟨k, r, ?_⟩
    cases k with
    | true =>
      show TD (gd X al mu ex) W f2 σ H1 Q
      have q' : DPost (gd X al mu ex) W B H σ Q (f2 ρ) := q
      refine td_i (S.mono x) (fun er he => by rw [he] at q'; exact ErOk.mono q' x) fun v2 H2 B2 d2 x2 r2 e2 => ?_
      rw [e2] at q'; exact q' v2 B2 H2 (x.trans x2) r2
    | false => exact q (.bl false) B1 H1 x rep_bl
theorem de_or (h1 : PE X a (TD (gd X al mu ex) W f1)) (h2 : PE X (.BoolOp .Or (b :: rest) pos) (TD (gd X al mu ex) W f2)) : PE X (.BoolOp .Or (a :: b :: rest) pos) (TD (gd X al mu ex) W (eOr f1 f2)) := (pe_or h1 h2).wk fun σ H Q ⟨B0, H0, B, ρ, S, q⟩ => by
  unfold eOr at q
  rcases asB_cases (f1 ρ) with ⟨er, e⟩ | ⟨d, e, e'⟩ | ⟨k, e⟩
  · rw [e] at q
    exact td_i S (fun er' he => by rw [e] at he; cases he; exact q) fun v H1 B1 d x r he => by rw [e] at he; cases he
  · rw [e'] at q; exact q.elim
  · refine td_i S (fun er' he => by rw [e] at he; cases he) fun v H1 B1 d x r he => ?_
    rw [e] at he; cases he
    rw [e] at q
    simp only [Rep] at r
    refine ⟨k, r, ?_⟩
    cases k with
    | false =>
      show TD (gd X al mu ex) W f2 σ H1 Q
      have q' : DPost (gd X al mu ex) W B H σ Q (f2 ρ) := q
      refine td_i (S.mono x) (fun er he => by rw [he] at q'; exact ErOk.mono q' x) fun v2 H2 B2 d2 x2 r2 e2 => ?_
      rw [e2] at q'; exact q' v2 B2 H2 (x.trans x2) r2
    | true => exact q (.bl true) B1 H1 x rep_bl
theorem de_one {op} (h : PE X a (TD (gd X al mu ex) W f1)) : PE X (.BoolOp op [a] pos) (TD (gd X al mu ex) W f1) := pe_one h
theorem de_not (h : PE X a (TD (gd X al mu ex) W f1)) : PE X (.UnaryOp .Not a pos) (TD (gd X al mu ex) W (eNot f1)) := (pe_not h).wk fun σ H Q ⟨B0, H0, B, ρ, S, q⟩ => by
  unfold eNot at q
  rcases asB_cases (f1 ρ) with ⟨er, e⟩ | ⟨d, e, e'⟩ | ⟨k, e⟩
  · rw [e] at q
    exact td_i S (fun er' he => by rw [e] at he; cases he; exact q) fun v H1 B1 d x r he => by rw [e] at he; cases he
  · rw [e'] at q; exact q.elim
  · refine td_i S (fun er' he => by rw [e] at he; cases he) fun v H1 B1 d x r he => ?_
    rw [e] at he; cases he
    rw [e] at q
    simp only [Rep] at r
    exact ⟨k, r, q _ B1 H1 x rep_bl⟩
def eIf (c : Sto → M Bool) (f g : Sto → M D) : Sto → M D := fun ρ => (c ρ).bind fun k => if k then f ρ else g ρ
theorem de_if (hc : PT X c (TB (gd X al mu ex) W g1)) (ha : PE X a (TD (gd X al mu ex) W f1)) (hb : PE X b (TD (gd X al mu ex) W f2)) : PE X (.IfExp c a b pos) (TD (gd X al mu ex) W (eIf g1 f1 f2)) := (pe_ifExp hc ha hb).wk fun σ H Q ⟨B0, H0, B, ρ, S, q⟩ => by
  unfold eIf at q
  refine tb_i S (fun er he => by rw [he] at q; exact q) fun k H1 B1 x e => ?_
  rw [e] at q
  cases k with
  | true =>
    show TD (gd X al mu ex) W f1 σ H1 Q
    have q' : DPost (gd X al mu ex) W B H σ Q (f1 ρ) := q
    refine td_i (S.mono x) (fun er he => by rw [he] at q'; exact ErOk.mono q' x) fun v2 H2 B2 d2 x2 r2 e2 => ?_
    rw [e2] at q'; exact q' v2 B2 H2 (x.trans x2) r2
  | false =>
    show TD (gd X al mu ex) W f2 σ H1 Q
    have q' : DPost (gd X al mu ex) W B H σ Q (f2 ρ) := q
    refine td_i (S.mono x) (fun er he => by rw [he] at q'; exact ErOk.mono q' x) fun v2 H2 B2 d2 x2 r2 e2 => ?_
    rw [e2] at q'; exact q' v2 B2 H2 (x.trans x2) r2
/-! ### a op b op' c -/
def eChain (g g' : D → D → Option D) (f1 f2 f3 : Sto → M D) : Sto → M D := fun ρ => (f1 ρ).bind fun a => (f2 ρ).bind fun b => (asB (opt (g a b))).bind fun k => if k then (f3 ρ).bind fun c => opt (g' b c) else .ok (.bl false)
theorem chain_tr {G : Gd} {r r' : R2} {g g' : D → D → Option D} (hg : OpI G r g) (hg' : OpI G r' g') : ∀ σ H Q, TD G W (eChain g g' f1 f2 f3) σ H Q → tChain r r' (TR G W f1) (TR G W f2) (TR G W f3) σ H Q := fun σ H Q ⟨B0, H0, B, ρ, S, q⟩ => by
  refine tr_i S (fun er he => ?_) fun x H1 B1 d x1 r1 e1 => tr_i (S.mono x1) (fun er he => ?_) fun y H2 B2 e x2 r2 e2 => ?_
  · have z : eChain g g' f1 f2 f3 ρ = .error er := by unfold eChain; rw [he]; rfl
    rw [z] at q; exact q
  · have z : eChain g g' f1 f2 f3 ρ = .error er := by unfold eChain; rw [e1, he]; rfl
    rw [z] at q; exact ErOk.mono q x1
  · have z : eChain g g' f1 f2 f3 ρ = (asB (opt (g d e))).bind fun k => if k then (f3 ρ).bind fun c => opt (g' e c) else .ok (.bl false) := by unfold eChain; rw [e1, e2]; rfl
    rw [z] at q
    cases hz : g d e with
    | none => rw [hz] at q; exact q.elim
    | some w =>
      rw [hz] at q
      rcases asB_cases (opt (some w)) with ⟨er, e'⟩ | ⟨d', e', e''⟩ | ⟨k, e'⟩
      · cases e'
      · rw [e''] at q; exact q.elim
      · cases e'
        refine hg B2 H2 d e x y _ _ x2.i' (r1.mono x2) r2 hz fun v B' H' x3 r3 => ?_
        simp only [Rep] at r3
        refine ⟨k, r3, ?_⟩
        have x4 := (x1.trans x2).trans x3
        cases k with
        | true =>
          show TR G W f3 σ H' _
          have q' : DPost G W B H σ Q ((f3 ρ).bind fun c => opt (g' e c)) := q
          refine tr_i (S.mono x4) (fun er he => by rw [he] at q'; exact ErOk.mono q' x4) fun w' H4 B4 c x5 r5 e5 => ?_
          rw [e5] at q'
          cases hz' : g' e c with
          | none =>
            have q2 : DPost G W B H σ Q (opt (g' e c)) := q'
            rw [hz'] at q2; exact q2.elim
          | some w2 =>
            have q2 : DPost G W B H σ Q (opt (g' e c)) := q'
            rw [hz'] at q2
            exact hg' B4 H4 e c y w' w2 Q x5.i' ((r2.mono x3).mono x5) r5 hz' fun v6 B6 H6 x6 r6 => q2 v6 B6 H6 ((x4.trans x5).trans x6) r6
        | false => exact q (.bl false) B' H' x4 rep_bl
theorem de_chain {op op' : CmpOp} {r r' : R2} {g g' : D → D → Option D} (hg : OpI (gd X al mu ex) r g) (hg' : OpI (gd X al mu ex) r' g') (ho : OpR X (compareOp op) r) (ho' : OpR X (compareOp op') r') (ha : PE X a (TR (gd X al mu ex) W f1)) (hb : PE X b (TR (gd X al mu ex) W f2)) (hc : PE X c (TR (gd X al mu ex) W f3))
    (hm : lastMarks [op, op'] [b, c] = false := by with_unfolding_all rfl) : PE X (.Compare a [op, op'] [b, c] pos) (TD (gd X al mu ex) W (eChain g g' f1 f2 f3)) := (pe_chain ho ho' ha hb hc hm).wk (chain_tr hg hg')
theorem db_chain {op op' : CmpOp} {r r' : R2} {g g' : D → D → Option D} (hg : OpI (gd X al mu ex) r g) (hg' : OpI (gd X al mu ex) r' g') (ho : OpR X (compareOp op) r) (ho' : OpR X (compareOp op') r') (ha : PE X a (TR (gd X al mu ex) W f1)) (hb : PE X b (TR (gd X al mu ex) W f2)) (hc : PE X c (TR (gd X al mu ex) W f3))
    (hm : lastMarks [op, op'] [b, c] = false := by with_unfolding_all rfl) : PT X (.Compare a [op, op'] [b, c] pos) (TB (gd X al mu ex) W (bV (eChain g g' f1 f2 f3))) := (pt_chain ho ho' ha hb hc hm).wk fun σ H Q h => chain_tr hg hg' σ H _ (td_of_b h)
end

/-! ### the operators -/
theorem OpI.or {G : Gd} {r r' : R2} {g g' : D → D → Option D} (h : OpI G r g) (h' : OpI G r' g') : OpI G (fun x y H Q => r x y H Q ∨ r' x y H Q) (fun d e => match g d e with | some z => some z | none => g' d e) := fun B H d e x y z Q s r1 r2 hz k => by
  dsimp only at hz
  cases hg : g d e with
  | some w =>
    rw [hg] at hz
    exact .inl (h B H d e x y z Q s r1 r2 (by rw [hg]; exact hz) k)
  | none =>
    rw [hg] at hz
    exact .inr (h' B H d e x y z Q s r1 r2 hz k)
def lim (n : Nat) : Bool := decide (n ≤ 1000000)
theorem lim_of {n : Nat} (h : lim n = true) : n ≤ sizeLine := Nat.le_trans (of_decide_eq_true h) (by rw [sizeLine_eq]; decide)
theorem lim_lt {n : Nat} (h : lim n = true) : n < sizeLine := Nat.lt_of_le_of_lt (of_decide_eq_true h) (by rw [sizeLine_eq]; decide)
def D.add : D → D → Option D
  | .int a, .int b => some (.int (a + b))
  | .str a, .str b => if lim (a.length + b.length) then some (.str (a ++ b)) else none
  | .lst a, .lst b => if lim (a.length + b.length) then some (.lst (a ++ b)) else none
  | .tup a, .tup b => if lim (a.length + b.length) then some (.tup (a ++ b)) else none
  | _, _ => none
def D.sub : D → D → Option D
  | .int a, .int b => some (.int (a - b))
  | _, _ => none
def D.mul : D → D → Option D
  | .int a, .int b => if a.natAbs.log2 + b.natAbs.log2 < 1000000 then some (.int (a * b)) else none
  | .lst a, .int k => if 0 ≤ k ∧ k ≤ 1000000 ∧ lim (a.length * k.toNat) then some (.lst (List.replicate k.toNat a).flatten) else none
  | .tup a, .int k => if 1 ≤ k ∧ k ≤ 1000 ∧ a.length ≤ 1000 ∧ a ≠ [] then some (.tup (List.replicate k.toNat a).flatten) else none
  | _, _ => none
def D.fdiv : D → D → Option D
  | .int a, .int b => if 0 < b ∧ b.natAbs.log2 < 9000 then some (.int (a / b)) else none
  | _, _ => none
def D.mod : D → D → Option D
  | .int a, .int b => if 0 < b then some (.int (a % b)) else none
  | _, _ => none
def D.pow : D → D → Option D
  | .int a, .int b => if 0 ≤ b ∧ b ≤ 1000 ∧ a.natAbs < 1000 then some (.int (a ^ b.toNat)) else none
  | _, _ => none
def cmpI (p : Int → Int → Bool) : D → D → Option D
  | .int a, .int b => some (.bl (p a b))
  | _, _ => none
abbrev D.lt := cmpI fun i j => decide (i < j)
abbrev D.le := cmpI fun i j => decide (i ≤ j)
abbrev D.gt := cmpI fun i j => decide (j < i)
abbrev D.ge := cmpI fun i j => decide (j ≤ i)
mutual
def D.toP : D → PyData
  | .non => .none
  | .bl b => .bool b
  | .int i => .int i
  | .str x => .str x
  | .lst ds => .list (toPs ds)
  | .fls ds => .list (toPs ds)
  | .tup ds => .tuple (toPs ds)
  | .ctp ds => .tuple (toPs ds)
  | .dic _ => .dict []
  | .obj _ _ => .dict []
  | .hdl _ => .dict []
def toPs : List D → List PyData
  | [] => []
  | d :: ds => d.toP :: toPs ds
end
def D.eq (d e : D) : Option D := if SeqAt.shaped d.toP && SeqAt.shaped e.toP then some (.bl (PyData.eqv d.toP e.toP)) else none
def D.ne (d e : D) : Option D := if SeqAt.shaped d.toP && SeqAt.shaped e.toP then some (.bl (!PyData.eqv d.toP e.toP)) else none
section
variable {G : Gd} {B H : Hp}
mutual
theorem rep_dp (s : Same B H) : ∀ (d : D) (v : V), Rep G B d v → PyData.canLay0 d.toP = true → Dp G.K H v d.toP
  | .non, v, r, _ => by simp only [Rep] at r; subst r; simp only [D.toP]; exact .non
  | .bl b, v, r, _ => by simp only [Rep] at r; subst r; simp only [D.toP]; exact .bl b
  | .int i, v, r, _ => by simp only [Rep] at r; subst r; simp only [D.toP]; exact .int i
  | .str x, v, r, _ => by simp only [Rep] at r; subst r; simp only [D.toP]; exact .str x
  | .lst ds, v, r, c => by
    simp only [Rep] at r
    obtain ⟨a, xs, e, q, rs⟩ := r
    subst e
    simp only [D.toP, PyData.canLay0] at c ⊢
    exact .lst (.of (s _ _ q)) (reps_dp s ds xs rs c)
  | .fls ds, v, r, c => by
    simp only [Rep] at r
    obtain ⟨a, xs, e, q, rs⟩ := r
    subst e
    simp only [D.toP, PyData.canLay0] at c ⊢
    exact .lst (sql_mono s q) (reps_dp s ds xs rs c)
  | .tup ds, v, r, c => by
    simp only [Rep] at r
    obtain ⟨a, xs, e, q, rs⟩ := r
    subst e
    simp only [D.toP, PyData.canLay0] at c ⊢
    exact .tup (.of (s _ _ q)) (reps_dp s ds xs rs c)
  | .ctp ds, v, r, c => by
    simp only [Rep] at r
    obtain ⟨a, xs, e, q, rs⟩ := r
    subst e
    simp only [D.toP, PyData.canLay0] at c ⊢
    exact .tup (sqt_mono s q) (reps_dp s ds xs rs c)
  | .dic _, v, r, c => by simp [D.toP, PyData.canLay0] at c
  | .obj _ _, v, r, c => by simp [D.toP, PyData.canLay0] at c
  | .hdl _, v, r, c => by simp [D.toP, PyData.canLay0] at c
theorem reps_dp (s : Same B H) : ∀ (ds : List D) (vs : List V), Reps G B ds vs → PyData.canLayAll0 (toPs ds) = true → DpAll G.K H vs (toPs ds)
  | [], vs, r, _ => by simp only [Reps] at r; subst r; simp only [toPs]; exact .nil
  | d :: ds, vs, r, c => by
    simp only [Reps] at r
    obtain ⟨v, t, e, r1, r2⟩ := r
    subst e
    simp only [toPs, PyData.canLayAll0, Bool.and_eq_true] at c ⊢
    exact .cons (rep_dp s d v r1 c.1) (reps_dp s ds t r2 c.2)
end
theorem rdb_dp (s : Same B H) {d : D} {v : V} (r : Rdb G B H d v) (c : SeqAt.shaped d.toP = true) : Dp G.K H v d.toP := by
  have c' := SeqAt.canLay_of_shaped c
  rcases r with r | ⟨p, h1, h2, h3⟩
  · exact rep_dp s d v r c'
  · cases d with
    | lst ds =>
      obtain ⟨xs, q, rs⟩ := h3
      subst h1
      simp only [D.toP, PyData.canLay0] at c' ⊢
      exact .lst (.of q) (reps_dp s ds xs rs c')
    | dic kvs => simp [D.toP, PyData.canLay0] at c'
    | _ => exact h3.elim
end
section
variable {G : Gd}
theorem opi_add : OpI G (fun x y H Q => (rI0 fun i j => .int (i + j)) x y H Q ∨ (∃ i j, x = .str i ∧ y = .str j ∧ i.length + j.length ≤ sizeLine ∧ Q (.str (i ++ j)) H) ∨ rCat x y H Q ∨ rCatA G.K x y H Q) D.add := fun B H d e x y z Q s r1 r2 hz k => by
  cases d with
  | int a =>
    cases e with
    | int b => cases hz; exact .inl ⟨a, b, rdb_int r1, rdb_int r2, k _ B H (Ext.refl s) rep_int⟩
    | _ => cases hz
  | str a =>
    cases e with
    | str b =>
      simp only [D.add] at hz
      split at hz
      · rename_i hl; cases hz; exact .inr (.inl ⟨a, b, rdb_str r1, rdb_str r2, lim_of hl, k _ B H (Ext.refl s) rep_str⟩)
      · cases hz
    | _ => cases hz
  | lst a =>
    cases e with
    | lst b =>
      simp only [D.add] at hz
      split at hz
      · rename_i hl
        cases hz
        obtain ⟨p, xs, rfl, h1, q1⟩ := rdb_lst s r1
        obtain ⟨p', ys, rfl, h2, q2⟩ := rdb_lst s r2
        refine .inr (.inr (.inl ⟨p, p', xs, ys, rfl, rfl, h1, h2, by rw [reps_len q1, reps_len q2]; exact lim_of hl, fun w hw => ?_⟩))
        have x := Ext.new (o := .lst (xs ++ ys)) s hw
        exact k _ _ _ x (rep_lst upd_same (reps_mono x.b _ _ (reps_app q1 q2)))
      · cases hz
    | _ => cases hz
  | tup a =>
    cases e with
    | tup b =>
      simp only [D.add] at hz
      split at hz
      · rename_i hl
        cases hz
        obtain ⟨p, xs, rfl, h1, b1, q1⟩ := rdb_tup s r1
        obtain ⟨p', ys, rfl, h2, b2, q2⟩ := rdb_tup s r2
        refine .inr (.inr (.inr ⟨p, p', xs, ys, rfl, rfl, .of h1, .of h2, by rw [reps_len q1, reps_len q2]; exact lim_of hl, fun e => ?_, fun _ e => ?_, fun _ _ w hw => ?_⟩))
        · have e' : a = [] := by have := reps_len q1; rw [e] at this; exact List.eq_nil_of_length_eq_zero this.symm
          subst e'
          exact k _ B H (Ext.refl s) (rep_tup b2 q2)
        · have e' : b = [] := by have := reps_len q2; rw [e] at this; exact List.eq_nil_of_length_eq_zero this.symm
          subst e'
          rw [List.append_nil] at k
          exact k _ B H (Ext.refl s) (rep_tup b1 q1)
        · have x := Ext.new (o := .tup (xs ++ ys)) s hw
          exact k _ _ _ x (rep_tup upd_same (reps_mono x.b _ _ (reps_app q1 q2)))
      · cases hz
    | _ => cases hz
  | _ => cases e <;> cases hz
theorem opr_add {X : Cx} : OpR X (binaryOp .Add) (fun x y H Q => (rI0 fun i j => .int (i + j)) x y H Q ∨ (∃ i j, x = .str i ∧ y = .str j ∧ i.length + j.length ≤ sizeLine ∧ Q (.str (i ++ j)) H) ∨ rCat x y H Q ∨ rCatA X.K x y H Q) := op_add.or (op_add_str.or (op_cat.or op_catA))
theorem opi_int {g : Int → Int → Int} {h : D → D → Option D} {C : Int → Int → Prop} (hh : ∀ d e z, h d e = some z → ∃ i j, d = .int i ∧ e = .int j ∧ C i j ∧ z = .int (g i j)) : OpI G (rI C fun i j => .int (g i j)) h := fun B H d e x y z Q s r1 r2 hz k => by
  obtain ⟨i, j, rfl, rfl, c, rfl⟩ := hh d e z hz
  exact ⟨i, j, rdb_int r1, rdb_int r2, c, k _ B H (Ext.refl s) rep_int⟩
theorem opi_sub : OpI G (rI0 fun i j => .int (i - j)) D.sub := fun B H d e x y z Q s r1 r2 hz k => by
  cases d with
  | int a =>
    cases e with
    | int b => cases hz; exact ⟨a, b, rdb_int r1, rdb_int r2, k _ B H (Ext.refl s) rep_int⟩
    | _ => cases hz
  | _ => cases e <;> cases hz
theorem opi_cmp {p : Int → Int → Bool} : OpI G (rI0 fun i j => .bl (p i j)) (cmpI p) := fun B H d e x y z Q s r1 r2 hz k => by
  cases d with
  | int a =>
    cases e with
    | int b => cases hz; exact ⟨a, b, rdb_int r1, rdb_int r2, k _ B H (Ext.refl s) rep_bl⟩
    | _ => cases hz
  | _ => cases e <;> cases hz
theorem opi_fdiv : OpI G (rI CDivW fun i j => .int (i / j)) D.fdiv := opi_int fun d e z hz => by
  cases d with
  | int a =>
    cases e with
    | int b =>
      simp only [D.fdiv] at hz
      split at hz
      · rename_i c; cases hz; exact ⟨a, b, rfl, rfl, c, rfl⟩
      · cases hz
    | _ => cases hz
  | _ => cases e <;> cases hz
theorem opi_mod : OpI G (rI (fun _ j => 0 < j) fun i j => .int (i % j)) D.mod := opi_int fun d e z hz => by
  cases d with
  | int a =>
    cases e with
    | int b =>
      simp only [D.mod] at hz
      split at hz
      · rename_i c; cases hz; exact ⟨a, b, rfl, rfl, c, rfl⟩
      · cases hz
    | _ => cases hz
  | _ => cases e <;> cases hz
theorem opi_pow : OpI G (rI CPow fun i j => .int (i ^ j.toNat)) D.pow := opi_int fun d e z hz => by
  cases d with
  | int a =>
    cases e with
    | int b =>
      simp only [D.pow] at hz
      split at hz
      · rename_i c; cases hz; exact ⟨a, b, rfl, rfl, ⟨c.1, by omega, by have := c.2.2; omega⟩, rfl⟩
      · cases hz
    | _ => cases hz
  | _ => cases e <;> cases hz
theorem tup_once (l : Addr) (its : Array Value) (n : Nat) (dd : Option Addr) (sl : Array (Option Value)) (u : Tok) :
    Meets (Builtin.«tuple.__mul__» ⟨[.ref l, .int 1 u], []⟩) (fun _ R s => s.heap.get? l = some { cls := .type "tuple", dict := dd, data := .seq its n, slots := sl } ∧ R (.ok (.ret (Value.ref l))) s) :=
  .of_wp fun prog w A R s h => by
    obtain ⟨hp, g, d, tk, os⟩ := s
    obtain ⟨hl, h⟩ := h
    have f1 := AutoSeq1.idx_int
    wp_walk using wpAny_loadPart' hl
    exact ⟨_, rfl, h⟩
def rOnce (K : PySem.W.Frag) : R2 := fun x y H Q => ∃ l xs, x = .ref l ∧ y = .int 1 ∧ SqT K H l xs ∧ Q (.ref l) H
theorem op_once {X : Cx} : OpR X (binaryOp .Mult) (rOnce X.K) := by
  intro pins s σ H x y v u Q I rx ry h
  obtain ⟨l, xs, rfl, rfl, hT, q⟩ := h
  cases rx
  obtain ⟨t, rfl⟩ := ry
  obtain ⟨its, rr, ⟨⟨c0, dd, da, sl⟩, ho, hc, n, hd⟩, hz⟩ := I.tuple hT
  simp only at hc hd
  subst hc hd
  refine wpAny_binaryOp_repeat_ref (T := "tuple") (U := "int") (by decide) ⟨_, ho, rfl⟩ (fun s' => typeIs_int s' 1 t) noFill_tuple_mul F.fills_int_mul F.slot_int_rmul repeat_tuple F.slot_int_index.lookup
    (call_meets F.slot_int_rmul (typeIs_int s 1 t) F.entry_int_rmul (F.args_int_rmul_2 _ _) (int_rmul_tuple 1 t l its.toArray n dd sl)
      ⟨ho, rfl, ⟨_, ho, rfl⟩, call_meets F.slot_tuple_mul ⟨_, ho, rfl⟩ F.entry_tuple_mul (F.args_tuple_mul_2 _ _) (tup_once l its.toArray n dd sl t) ⟨ho, ?_⟩⟩)
  exact ⟨.ref l, H, I, rfl, q⟩
theorem opi_mul : OpI G (fun x y H Q => (rI CMulW fun i j => .int (i * j)) x y H Q ∨ rRep x y H Q ∨ rRepT G.K x y H Q ∨ rOnce G.K x y H Q) D.mul := fun B H d e x y z Q s r1 r2 hz k => by
  cases d with
  | int a =>
    cases e with
    | int b =>
      simp only [D.mul] at hz
      split at hz
      · rename_i c; cases hz; exact .inl ⟨a, b, rdb_int r1, rdb_int r2, c, k _ B H (Ext.refl s) rep_int⟩
      · cases hz
    | _ => cases hz
  | lst a =>
    cases e with
    | int b =>
      simp only [D.mul] at hz
      split at hz
      · rename_i c
        cases hz
        obtain ⟨p, xs, rfl, h1, q1⟩ := rdb_lst s r1
        refine .inr (.inl ⟨p, b, xs, rfl, rdb_int r2, h1, by omega, by omega, by rw [reps_len q1]; exact lim_of c.2.2, fun w hw => ?_⟩)
        have x := Ext.new (o := .lst (List.replicate b.toNat xs).flatten) s hw
        exact k _ _ _ x (rep_lst upd_same (reps_mono x.b _ _ (reps_rep q1 _)))
      · cases hz
    | _ => cases hz
  | tup a =>
    cases e with
    | int b =>
      simp only [D.mul] at hz
      split at hz
      · rename_i c
        cases hz
        obtain ⟨p, xs, rfl, h1, b1, q1⟩ := rdb_tup s r1
        by_cases hb : b = 1
        · subst hb
          refine .inr (.inr (.inr ⟨p, xs, rfl, rdb_int r2, .of h1, k _ B H (Ext.refl s) ?_⟩))
          have e : (List.replicate (1 : Int).toNat a).flatten = a := by simp
          rw [e]
          exact rep_tup b1 q1
        refine .inr (.inr (.inl ⟨p, b, xs, rfl, rdb_int r2, .of h1, fun e => c.2.2.2 ?_, by omega, c.2.1, by rw [reps_len q1]; exact c.2.2.1, fun w hw => ?_⟩))
        · have := reps_len q1; rw [e] at this; exact List.eq_nil_of_length_eq_zero this.symm
        · have x := Ext.new (o := .tup (List.replicate b.toNat xs).flatten) s hw
          exact k _ _ _ x (rep_tup upd_same (reps_mono x.b _ _ (reps_rep q1 _)))
      · cases hz
    | _ => cases hz
  | _ => cases e <;> cases hz
theorem opr_mul {X : Cx} : OpR X (binaryOp .Mult) (fun x y H Q => (rI CMulW fun i j => .int (i * j)) x y H Q ∨ rRep x y H Q ∨ rRepT X.K x y H Q ∨ rOnce X.K x y H Q) := op_mulW.or (op_rep.or (op_repT.or op_once))
theorem opi_eq : OpI G (rEqD G.K) D.eq := fun B H d e x y z Q s r1 r2 hz k => by
  unfold D.eq at hz
  split at hz
  · rename_i c
    rw [Bool.and_eq_true] at c
    cases hz
    exact ⟨d.toP, e.toP, rdb_dp s r1 c.1, rdb_dp s r2 c.2, c.1, c.2, k _ B H (Ext.refl s) rep_bl⟩
  · cases hz
theorem opi_ne : OpI G (rNeD G.K) D.ne := fun B H d e x y z Q s r1 r2 hz k => by
  unfold D.ne at hz
  split at hz
  · rename_i c
    rw [Bool.and_eq_true] at c
    cases hz
    exact ⟨d.toP, e.toP, rdb_dp s r1 c.1, rdb_dp s r2 c.2, c.1, c.2, k _ B H (Ext.refl s) rep_bl⟩
  · cases hz
/-- is None -/
def D.isN : D → D → Option D
  | d, .non => some (.bl (match d with | .non => true | _ => false))
  | _, _ => none
def D.notN : D → D → Option D
  | d, .non => some (.bl (match d with | .non => false | _ => true))
  | _, _ => none
theorem rdb_isN {B H : Hp} {d : D} {v : V} (r : Rdb G B H d v) : decide (v = .non) = (match d with | .non => true | _ => false) := by
  rcases r with r | ⟨p, h1, h2, h3⟩
  · cases d with
    | non => simp only [Rep] at r; subst r; rfl
    | bl b => simp only [Rep] at r; subst r; rfl
    | int b => simp only [Rep] at r; subst r; rfl
    | str b => simp only [Rep] at r; subst r; rfl
    | lst ds => simp only [Rep] at r; obtain ⟨a, _, rfl, _⟩ := r; rfl
    | fls ds => simp only [Rep] at r; obtain ⟨a, _, rfl, _⟩ := r; rfl
    | tup ds => simp only [Rep] at r; obtain ⟨a, _, rfl, _⟩ := r; rfl
    | ctp ds => simp only [Rep] at r; obtain ⟨a, _, rfl, _⟩ := r; rfl
    | dic ds => simp only [Rep] at r; obtain ⟨a, rfl, _⟩ := r; rfl
    | obj c ds => simp only [Rep] at r; obtain ⟨a, _, _, _, rfl, _⟩ := r; rfl
    | hdl n => simp only [Rep] at r; obtain ⟨a, _, rfl⟩ := r; rfl
  · subst h1
    cases d with
    | non => exact h3.elim
    | _ => rfl
theorem opi_isN : OpI G (fun x y H Q => y = .non ∧ Q (.bl (decide (x = .non))) H) D.isN := fun B H d e x y z Q s r1 r2 hz k => by
  cases e with
  | non =>
    cases d <;> (cases hz; refine ⟨rdb_non r2, ?_⟩; rw [rdb_isN r1]; exact k _ B H (Ext.refl s) rep_bl)
  | _ => cases d <;> cases hz
theorem opi_notN : OpI G (fun x y H Q => y = .non ∧ Q (.bl (!decide (x = .non))) H) D.notN := fun B H d e x y z Q s r1 r2 hz k => by
  cases e with
  | non =>
    cases d <;> (cases hz; refine ⟨rdb_non r2, ?_⟩; rw [rdb_isN r1]; exact k _ B H (Ext.refl s) rep_bl)
  | _ => cases d <;> cases hz
end
end DL

namespace DL
open PySem PySem.Spec PyProof.Rows L2

/-! ### items by place, slices -/
section
variable {G : Gd} {B H : Hp}
theorem reps_at {ds : List D} {vs : List V} {i : Int} {d : D} (r : Reps G B ds vs) (h : atI ds i = some d) : ∃ v, atI vs i = some v ∧ Rep G B d v := by
  unfold atI at h ⊢
  rw [reps_len r]
  cases hx : ixN ds.length i with
  | none => rw [hx] at h; cases h
  | some j =>
    rw [hx] at h
    exact reps_get r h
end
def D.item : D → D → Option D
  | .lst ds, .int i => atI ds i
  | .fls ds, .int i => atI ds i
  | .tup ds, .int i => atI ds i
  | .ctp ds, .int i => atI ds i
  | .str z, .int i => if lim z.length then (atI z.cps.toList i).map fun c => .str ⟨#[c]⟩ else none
  | _, _ => none
theorem opi_item {G : Gd} : OpI G (rIx G.K) D.item := fun B H d e x y z Q s r1 r2 hz k => by
  cases e with
  | int i =>
    have y' := rdb_int r2
    subst y'
    cases d with
    | lst ds =>
      obtain ⟨a, xs, rfl, h1, q⟩ := rdb_lst s r1
      obtain ⟨v, hv, rv⟩ := reps_at q hz
      exact .inl ⟨a, xs, i, v, rfl, rfl, .of h1, hv, k v B H (Ext.refl s) rv⟩
    | fls ds =>
      obtain ⟨a, xs, rfl, h1, q⟩ := rdb_fls s r1
      obtain ⟨v, hv, rv⟩ := reps_at q hz
      exact .inl ⟨a, xs, i, v, rfl, rfl, h1, hv, k v B H (Ext.refl s) rv⟩
    | tup ds =>
      obtain ⟨a, xs, rfl, h1, _, q⟩ := rdb_tup s r1
      obtain ⟨v, hv, rv⟩ := reps_at q hz
      exact .inr (.inl ⟨a, xs, i, v, rfl, rfl, .of h1, hv, k v B H (Ext.refl s) rv⟩)
    | ctp ds =>
      obtain ⟨a, xs, rfl, h1, q⟩ := rdb_ctp s r1
      obtain ⟨v, hv, rv⟩ := reps_at q hz
      exact .inr (.inl ⟨a, xs, i, v, rfl, rfl, h1, hv, k v B H (Ext.refl s) rv⟩)
    | str w =>
      have x' := rdb_str r1
      subst x'
      simp only [D.item] at hz
      split at hz
      · rename_i hl
        cases hc : atI w.cps.toList i with
        | none => rw [hc] at hz; cases hz
        | some c =>
          rw [hc] at hz
          cases hz
          exact .inr (.inr ⟨w, i, c, rfl, rfl, lim_of hl, hc, k _ B H (Ext.refl s) rep_str⟩)
      · cases hz
    | _ => cases hz
  | _ => cases d <;> cases hz
section
variable {X : Cx} {W : WX} {a b c : Expr} {f1 f2 f3 : Sto → M D} {pos : Pos}
theorem de_ix (ha : PE X a (TR (gd X al mu ex) W f1)) (hb : PE X b (TR (gd X al mu ex) W f2)) (hs : PlainIx b := by intro _ _; rfl) : PE X (.Subscript a b pos) (TD (gd X al mu ex) W (eBin D.item f1 f2)) := (pe_ix ix_seq ha hb hs).wk (bin_tr opi_item)
end
def cut {α : Type} (xs : List α) (lo hi : Option Int) : List α := (xs.drop (HT.sIx xs.length 0 lo)).take (HT.sIx xs.length xs.length hi - HT.sIx xs.length 0 lo)
theorem reps_cut {G : Gd} {B : Hp} {ds : List D} {vs : List V} {lo hi : Option Int} (r : Reps G B ds vs) : Reps G B (cut ds lo hi) (cutV vs lo hi) := by
  unfold cut cutV
  rw [reps_len r]
  exact reps_take _ (reps_drop _ r)
def OPost (G : Gd) (W : WX) (B H : Hp) (σ : L2.St) (Q : Option Int → Hp → Prop) : M (Option Int) → Prop
  | .ok o => ∀ B' H', Ext B H B' H' → Q o H'
  | .error e => ErOk G W B H σ e
def TOD (G : Gd) (W : WX) (f : Sto → M (Option Int)) : TO := fun σ H Q => ∃ B0 H0 B ρ, StOk G B0 H0 B H σ ρ ∧ OPost G W B H σ Q (f ρ)
theorem to_i {G : Gd} {W : WX} {B0 H0 B H : Hp} {σ : L2.St} {ρ : Sto} {f : Sto → M (Option Int)} {Q : Option Int → Hp → Prop} (S : StOk G B0 H0 B H σ ρ) (hE : ∀ e, f ρ = .error e → ErOk G W B H σ e) (k : ∀ b H1 B1, Ext B H B1 H1 → f ρ = .ok b → Q b H1) : TOD G W f σ H Q := by
  refine ⟨B0, H0, B, ρ, S, ?_⟩
  cases hf : f ρ with
  | ok d => exact fun B' H' x => k d H' B' x hf
  | error e => exact hE e hf
def oNo : Sto → M (Option Int) := fun _ => .ok none
def oI (f : Sto → M D) : Sto → M (Option Int) := fun ρ => match f ρ with
  | .ok (.int i) => .ok (some i)
  | .ok _ => .error .stuck
  | .error e => .error e
section
variable {X : Cx} {W : WX} {e : Expr} {f : Sto → M D}
theorem do_no : PO X none (TOD (gd X al mu ex) W oNo) := ⟨fun pins s σ H Q I ⟨B0, H0, B, ρ, S, q⟩ => po_none.run pins s σ H Q I (q B H (Ext.refl S.ext.i'))⟩
theorem do_i (h : PE X e (TD (gd X al mu ex) W f)) : PO X (some e) (TOD (gd X al mu ex) W (oI f)) := ⟨fun pins s σ H Q I ⟨B0, H0, B, ρ, S, q⟩ => (po_some h).run pins s σ H Q I (by
  unfold oI at q
  refine td_i S (fun er he => by rw [he] at q; exact q) fun v H1 B1 d x r hd => ?_
  rw [hd] at q
  cases d with
  | int i => simp only [Rep] at r; exact ⟨i, r, q B1 H1 x⟩
  | _ => exact q.elim)⟩
end
def D.slice : D → Option Int → Option Int → Option D
  | .lst ds, lo, hi => some (.lst (cut ds lo hi))
  | .fls ds, lo, hi => some (.lst (cut ds lo hi))
  | .tup ds, lo, hi => some (.tup (cut ds lo hi))
  | .str z, lo, hi => if lim z.length then some (.str (cutS z lo hi)) else none
  | _, _, _ => none
def eSl (f : Sto → M D) (lo hi : Sto → M (Option Int)) : Sto → M D := fun ρ => (f ρ).bind fun d => (lo ρ).bind fun l => (hi ρ).bind fun h => opt (d.slice l h)
theorem cut_whole {α : Type} {xs : List α} {lo hi : Option Int} (h : HT.sIx xs.length 0 lo = 0 ∧ HT.sIx xs.length xs.length hi = xs.length) : cut xs lo hi = xs := by
  unfold cut
  rw [h.1, h.2]
  simp
def rSlX (K : PySem.W.Frag) : V → Option Int → Option Int → Hp → VK → Prop := fun x lo hi H Q => rSlL K x lo hi H Q ∨ rSlA K x lo hi H Q ∨ rSlS x lo hi H Q
theorem sl_x {X : Cx} : SlR X (rSlX X.K) := sl_list.or (sl_tupA.or sl_str)
theorem sli {G : Gd} {B H : Hp} {d z : D} {x : V} {lo hi : Option Int} {Q : VK} (s : Same B H) (r : Rdb G B H d x) (hz : d.slice lo hi = some z) (k : ∀ v B' H', Ext B H B' H' → Rep G B' z v → Q v H') : rSlX G.K x lo hi H Q := by
  cases d with
  | lst ds =>
    cases hz
    obtain ⟨a, xs, rfl, h1, q⟩ := rdb_lst s r
    refine .inl ⟨a, xs, rfl, .of h1, fun p hp => ?_⟩
    have x := Ext.new (o := .lst (cutV xs lo hi)) s hp
    exact k _ _ _ x (rep_lst upd_same (reps_mono x.b _ _ (reps_cut q)))
  | fls ds =>
    cases hz
    obtain ⟨a, xs, rfl, h1, q⟩ := rdb_fls s r
    refine .inl ⟨a, xs, rfl, h1, fun p hp => ?_⟩
    have x := Ext.new (o := .lst (cutV xs lo hi)) s hp
    exact k _ _ _ x (rep_lst upd_same (reps_mono x.b _ _ (reps_cut q)))
  | tup ds =>
    cases hz
    obtain ⟨a, xs, rfl, h1, b1, q⟩ := rdb_tup s r
    refine .inr (.inl ⟨a, xs, rfl, .of h1, fun w => ?_, fun _ p hp => ?_⟩)
    · have w' : cut ds lo hi = ds := cut_whole (by rw [← reps_len q]; exact w)
      rw [w'] at k
      exact k _ B H (Ext.refl s) (rep_tup b1 q)
    · have x := Ext.new (o := .tup (cutV xs lo hi)) s hp
      exact k _ _ _ x (rep_tup upd_same (reps_mono x.b _ _ (reps_cut q)))
  | str w =>
    simp only [D.slice] at hz
    split at hz
    · rename_i hl
      cases hz
      exact .inr (.inr ⟨w, rdb_str r, lim_of hl, k _ B H (Ext.refl s) rep_str⟩)
    · cases hz
  | _ => cases hz
section
variable {X : Cx} {W : WX} {e : Expr} {lo hi : Option Expr} {f : Sto → M D} {fl fh : Sto → M (Option Int)} {pos p2 : Pos}
theorem de_sl (he : PE X e (TR (gd X al mu ex) W f)) (hl : PO X lo (TOD (gd X al mu ex) W fl)) (hh : PO X hi (TOD (gd X al mu ex) W fh)) : PE X (.Subscript e (.Slice lo hi none p2) pos) (TD (gd X al mu ex) W (eSl f fl fh)) := (pe_slice sl_x he hl hh).wk fun σ H Q ⟨B0, H0, B, ρ, S, q⟩ => by
  refine tr_i S (fun er h => ?_) fun x H1 B1 d x1 r1 e1 => to_i (S.mono x1) (fun er h => ?_) fun l H2 B2 x2 e2 => to_i ((S.mono x1).mono x2) (fun er h => ?_) fun u H3 B3 x3 e3 => ?_
  · have z : eSl f fl fh ρ = .error er := by unfold eSl; rw [h]; rfl
    rw [z] at q; exact q
  · have z : eSl f fl fh ρ = .error er := by unfold eSl; rw [e1, h]; rfl
    rw [z] at q; exact ErOk.mono q x1
  · have z : eSl f fl fh ρ = .error er := by unfold eSl; rw [e1, e2, h]; rfl
    rw [z] at q; exact ErOk.mono q (x1.trans x2)
  · have z : eSl f fl fh ρ = opt (d.slice l u) := by unfold eSl; rw [e1, e2, e3]; rfl
    rw [z] at q
    cases hz : d.slice l u with
    | none => rw [hz] at q; exact q.elim
    | some w =>
      rw [hz] at q
      exact sli x3.i' ((r1.mono x2).mono x3) hz fun v B' H' x4 r4 => q v B' H' (((x1.trans x2).trans x3).trans x4) r4
end

/-! ### lists of arguments, displays -/
def aNil : Sto → M (List D) := fun _ => .ok []
def aCons (f : Sto → M D) (g : Sto → M (List D)) : Sto → M (List D) := fun ρ => (f ρ).bind fun d => (g ρ).bind fun ds => .ok (d :: ds)
section
variable {X : Cx} {W : WX} {e : Expr} {es : List Expr} {f : Sto → M D} {g : Sto → M (List D)} {pos : Pos}
theorem ad_nil : PA X [] (TAD (gd X al mu ex) W aNil) := pa_nil.wk fun σ H Q ⟨B0, H0, B, ρ, S, q⟩ => q [] B H (Ext.refl S.ext.i') reps_nil
theorem ad_cons (h : PE X e (TD (gd X al mu ex) W f)) (hr : PA X es (TAD (gd X al mu ex) W g)) (hs : starEach (e :: es) X.env = (false, eval e X.env) :: starEach es X.env := by rfl) : PA X (e :: es) (TAD (gd X al mu ex) W (aCons f g)) := (pa_cons h hr hs).wk fun σ H Q ⟨B0, H0, B, ρ, S, q⟩ => by
  refine td_i S (fun er h => ?_) fun x H1 B1 d x1 r1 e1 => tad_i (S.mono x1) (fun er h => ?_) fun vs H2 B2 ds x2 r2 e2 => ?_
  · have z : aCons f g ρ = .error er := by unfold aCons; rw [h]; rfl
    rw [z] at q; exact q
  · have z : aCons f g ρ = .error er := by unfold aCons; rw [e1, h]; rfl
    rw [z] at q; exact ErOk.mono q x1
  · have z : aCons f g ρ = .ok (d :: ds) := by unfold aCons; rw [e1, e2]; rfl
    rw [z] at q
    exact q _ B2 H2 (x1.trans x2) (reps_cons (rep_mono x2.b _ _ r1) r2)
theorem ar_nil : PA X [] (TAR (gd X al mu ex) W aNil) := pa_nil.wk fun σ H Q ⟨B0, H0, B, ρ, S, q⟩ => q [] B H (Ext.refl S.ext.i') rfl
theorem ar_cons (h : PE X e (TR (gd X al mu ex) W f)) (hr : PA X es (TAR (gd X al mu ex) W g)) (hs : starEach (e :: es) X.env = (false, eval e X.env) :: starEach es X.env := by rfl) : PA X (e :: es) (TAR (gd X al mu ex) W (aCons f g)) := (pa_cons h hr hs).wk fun σ H Q ⟨B0, H0, B, ρ, S, q⟩ => by
  refine tr_i S (fun er h => ?_) fun x H1 B1 d x1 r1 e1 => tar_i (S.mono x1) (fun er h => ?_) fun vs H2 B2 ds x2 r2 e2 => ?_
  · have z : aCons f g ρ = .error er := by unfold aCons; rw [h]; rfl
    rw [z] at q; exact q
  · have z : aCons f g ρ = .error er := by unfold aCons; rw [e1, h]; rfl
    rw [z] at q; exact ErOk.mono q x1
  · have z : aCons f g ρ = .ok (d :: ds) := by unfold aCons; rw [e1, e2]; rfl
    rw [z] at q
    exact q _ B2 H2 (x1.trans x2) ⟨x, vs, rfl, r1.mono x2, r2⟩
def eTup (g : Sto → M (List D)) : Sto → M D := fun ρ => (g ρ).bind fun ds => if lim ds.length then .ok (.tup ds) else .error .stuck
def eLst (g : Sto → M (List D)) : Sto → M D := fun ρ => (g ρ).bind fun ds => if lim ds.length then .ok (.lst ds) else .error .stuck
theorem de_tup {x1} (h : PA X es (TAD (gd X al mu ex) W g)) : PE X (.Tuple es x1 pos) (TD (gd X al mu ex) W (eTup g)) := (pe_tup h).wk fun σ H Q ⟨B0, H0, B, ρ, S, q⟩ => by
  unfold eTup at q
  refine tad_i S (fun er h => by rw [h] at q; exact q) fun vs H1 B1 ds x r e => ?_
  rw [e] at q
  have q' : DPost (gd X al mu ex) W B H σ Q (if lim ds.length then .ok (.tup ds) else .error .stuck) := q
  split at q'
  · rename_i hl
    refine ⟨by rw [reps_len r]; exact lim_of hl, fun p hp => ?_⟩
    have x2 := Ext.new (o := .tup vs) x.i' hp
    exact q' _ _ _ (x.trans x2) (rep_tup upd_same (reps_mono x2.b _ _ r))
  · exact q'.elim
theorem df_lst (h : PA X es (TAD (gd X al mu ex) W g)) : PE X (.List es pos) (TF (gd X al mu ex) W (eLst g)) := (pe_lst h).wk fun σ H Q ⟨B0, H0, B, ρ, S, q⟩ => by
  unfold eLst at q
  refine tad_i S (fun er h => by rw [h] at q; exact q) fun vs H1 B1 ds x r e => ?_
  rw [e] at q
  have q' : FPost (gd X al mu ex) W B H σ Q (if lim ds.length then .ok (.lst ds) else .error .stuck) := q
  split at q'
  · rename_i hl
    refine ⟨by rw [reps_len r]; exact lim_of hl, fun p hp => ?_⟩
    have x2 := Ext.own (o := .lst vs) x.i' hp
    exact q' p B1 _ (x.trans x2) (x.fresh hp) (none_of_same x.i' hp) ⟨vs, upd_same, r⟩
  · exact q'.elim
end

/-! ### calls of built-ins -/
def CallI (G : Gd) (r : List V → Hp → VK → Prop) (g : List D → Option D) : Prop := ∀ B H ds xs z Q, Same B H → Rdbs G B H ds xs → g ds = some z → (∀ v B' H', Ext B H B' H' → Rep G B' z v → Q v H') → r xs H Q
def CallF (G : Gd) (r : List V → Hp → VK → Prop) (g : List D → Option D) : Prop := ∀ B H ds xs z Q, Same B H → Rdbs G B H ds xs → g ds = some z → (∀ p B' H', Ext B H B' H' → H p = none → B' p = none → OwAt G B' H' p z → Q (.ref p) H') → r xs H Q
def eCall (g : List D → Option D) (f : Sto → M (List D)) : Sto → M D := fun ρ => (f ρ).bind fun ds => opt (g ds)
theorem call_tr {G : Gd} {W : WX} {r : List V → Hp → VK → Prop} {g : List D → Option D} {f : Sto → M (List D)} (hg : CallI G r g) : ∀ σ H Q, TD G W (eCall g f) σ H Q → tCB r (TAR G W f) σ H Q := fun σ H Q ⟨B0, H0, B, ρ, S, q⟩ => by
  unfold eCall at q
  refine tar_i S (fun er h => by rw [h] at q; exact q) fun vs H1 B1 ds x rr e => ?_
  rw [e] at q
  have q' : DPost G W B H σ Q (opt (g ds)) := q
  cases hz : g ds with
  | none => rw [hz] at q'; exact q'.elim
  | some z =>
    rw [hz] at q'
    exact hg B1 H1 ds vs z Q x.i' rr hz fun v B' H' x2 r2 => q' v B' H' (x.trans x2) r2
theorem callF_tr {G : Gd} {W : WX} {r : List V → Hp → VK → Prop} {g : List D → Option D} {f : Sto → M (List D)} (hg : CallF G r g) : ∀ σ H Q, TF G W (eCall g f) σ H Q → tCB r (TAR G W f) σ H Q := fun σ H Q ⟨B0, H0, B, ρ, S, q⟩ => by
  unfold eCall at q
  refine tar_i S (fun er h => by rw [h] at q; exact q) fun vs H1 B1 ds x rr e => ?_
  rw [e] at q
  have q' : FPost G W B H σ Q (opt (g ds)) := q
  cases hz : g ds with
  | none => rw [hz] at q'; exact q'.elim
  | some z =>
    rw [hz] at q'
    exact hg B1 H1 ds vs z Q x.i' rr hz fun p B' H' x2 h1 h2 h3 => q' p B' H' (x.trans x2) (x.fresh h1) h2 h3
section
variable {X : Cx} {W : WX} {x : Str} {p pos : Pos} {e : Expr} {es : List Expr} {f : Sto → M (List D)} {id T : String} {r : List V → Hp → VK → Prop} {g : List D → Option D}
theorem de_callB (hg : CallI (gd X al mu ex) r g) (hc : CallR X (.builtin id) r) (hm : X.mg x = none) (ha : PA X (e :: es) (TAR (gd X al mu ex) W f)) (hgl : Gl X x := by rfl) (hv : bootBuiltins x = some (.builtin id) := by decide +kernel) (hn : x ≠ "__name__" := by decide) (hdb : (x == ("__debug__" : Str)) = false := by decide)
    (he : starEach (e :: es) X.env = (false, eval e X.env) :: starEach es X.env := by rfl) (hpl : (backTo pos (starEach es X.env)).any (·.1) = false := by rfl) : PE X (.Call (.Name x p) (e :: es) [] pos) (TD (gd X al mu ex) W (eCall g f)) := (pe_callB hc hgl hm hv ha hn hdb he hpl).wk (call_tr hg)
theorem de_callTy (hg : CallI (gd X al mu ex) r g) (hc : CallR X (.type T) r) (hm : X.mg x = none) (ha : PA X (e :: es) (TAR (gd X al mu ex) W f)) (hgl : Gl X x := by rfl) (hv : bootBuiltins x = some (.type T) := by decide +kernel) (hn : x ≠ "__name__" := by decide) (hdb : (x == ("__debug__" : Str)) = false := by decide)
    (he : starEach (e :: es) X.env = (false, eval e X.env) :: starEach es X.env := by rfl) (hpl : (backTo pos (starEach es X.env)).any (·.1) = false := by rfl) : PE X (.Call (.Name x p) (e :: es) [] pos) (TD (gd X al mu ex) W (eCall g f)) := (pe_callTy hc hgl hm hv ha hn hdb he hpl).wk (call_tr hg)
theorem df_callTy (hg : CallF (gd X al mu ex) r g) (hc : CallR X (.type T) r) (hm : X.mg x = none) (ha : PA X (e :: es) (TAR (gd X al mu ex) W f)) (hgl : Gl X x := by rfl) (hv : bootBuiltins x = some (.type T) := by decide +kernel) (hn : x ≠ "__name__" := by decide) (hdb : (x == ("__debug__" : Str)) = false := by decide)
    (he : starEach (e :: es) X.env = (false, eval e X.env) :: starEach es X.env := by rfl) (hpl : (backTo pos (starEach es X.env)).any (·.1) = false := by rfl) : PE X (.Call (.Name x p) (e :: es) [] pos) (TF (gd X al mu ex) W (eCall g f)) := (pe_callTy hc hgl hm hv ha hn hdb he hpl).wk (callF_tr hg)
end
section
variable {G : Gd}
def gLen : List D → Option D
  | [.str z] => if lim z.length then some (.int z.length) else none
  | [d] => d.items.map fun ds => .int ds.length
  | _ => none
theorem ci_len : CallI G (fun xs H Q => ∃ x n, xs = [x] ∧ LenV G.K x H n ∧ Q (.int n) H) gLen := fun B H ds xs z Q s r hz k => by
  match ds, r, hz with
  | [], r, hz => cases hz
  | _ :: _ :: _, r, hz => rename_i d _ _; cases d <;> cases hz
  | [d], ⟨v, t, e, r1, e2⟩, hz =>
    have e2' : t = [] := e2
    subst e e2'
    have seq : ∀ es, d.items = some es → (∀ v B' H', Ext B H B' H' → Rep G B' (.int (es.length : Int)) v → Q v H') → ∃ x n, [v] = [x] ∧ LenV G.K x H n ∧ Q (.int n) H := fun es hi kk => by
      obtain ⟨a, xs, rfl, h, q⟩ := rdb_seq s r1 hi
      refine ⟨_, xs.length, rfl, ?_, kk _ B H (Ext.refl s) (by rw [reps_len q]; exact rep_int)⟩
      rcases h with h | h
      · exact .inl ⟨xs, h, rfl⟩
      · exact .inr ⟨xs, h, rfl⟩
    cases d with
    | str w =>
      simp only [gLen] at hz
      split at hz
      · rename_i hl
        cases hz
        have v' := rdb_str r1
        subst v'
        exact ⟨_, w.length, rfl, ⟨lim_of hl, rfl⟩, k _ B H (Ext.refl s) rep_int⟩
      · cases hz
    | lst es => cases hz; exact seq es rfl k
    | fls es => cases hz; exact seq es rfl k
    | tup es => cases hz; exact seq es rfl k
    | ctp es => cases hz; exact seq es rfl k
    | _ => cases hz
def gList : List D → Option D
  | [d] => d.items.map fun ds => .lst ds
  | _ => none
theorem cf_list : CallF G (fun xs H Q => ∃ p ys, xs = [.ref p] ∧ (SqL G.K H p ys ∨ SqT G.K H p ys) ∧ ∀ l, H l = none → Q (.ref l) (upd H l (.lst ys))) gList := fun B H ds xs z Q s r hz k => by
  match ds, r, hz with
  | [], r, hz => cases hz
  | _ :: _ :: _, r, hz => cases hz
  | [d], ⟨v, t, e, r1, e2⟩, hz =>
    have e2' : t = [] := e2
    subst e e2'
    simp only [gList] at hz
    cases hi : d.items with
    | none => rw [hi] at hz; cases hz
    | some es =>
      rw [hi] at hz
      cases hz
      obtain ⟨a, xs, rfl, h, q⟩ := rdb_seq s r1 hi
      exact ⟨a, xs, rfl, h, fun l hl => k l B _ (Ext.own s hl) hl (none_of_same s hl) ⟨xs, upd_same, q⟩⟩
def gTuple : List D → Option D
  | [.lst ds] => some (.tup ds)
  | [.fls ds] => some (.tup ds)
  | [.tup ds] => some (.tup ds)
  | [.ctp ds] => some (.ctp ds)
  | _ => none
theorem ci_tuple : CallI G (fun xs H Q => ∃ p ys, xs = [.ref p] ∧ ((SqL G.K H p ys ∧ ∀ l, H l = none → Q (.ref l) (upd H l (.tup ys))) ∨ (SqT G.K H p ys ∧ Q (.ref p) H))) gTuple := fun B H ds xs z Q s r hz k => by
  match ds, r, hz with
  | [], r, hz => cases hz
  | d :: _ :: _, r, hz => cases d <;> cases hz
  | [d], ⟨v, t, e, r1, e2⟩, hz =>
    have e2' : t = [] := e2
    subst e e2'
    cases d with
    | lst es =>
      cases hz
      obtain ⟨a, xs, rfl, h, q⟩ := rdb_lst s r1
      exact ⟨a, xs, rfl, .inl ⟨.of h, fun l hl => k _ _ _ (Ext.new s hl) (rep_tup upd_same (reps_mono (Ext.new (o := .tup xs) s hl).b _ _ q))⟩⟩
    | fls es =>
      cases hz
      obtain ⟨a, xs, rfl, h, q⟩ := rdb_fls s r1
      exact ⟨a, xs, rfl, .inl ⟨h, fun l hl => k _ _ _ (Ext.new s hl) (rep_tup upd_same (reps_mono (Ext.new (o := .tup xs) s hl).b _ _ q))⟩⟩
    | tup es =>
      cases hz
      obtain ⟨a, xs, rfl, h, b, q⟩ := rdb_tup s r1
      exact ⟨a, xs, rfl, .inr ⟨.of h, k _ B H (Ext.refl s) (rep_tup b q)⟩⟩
    | ctp es =>
      cases hz
      rcases r1 with r1 | ⟨_, _, _, h3⟩
      · simp only [Rep] at r1
        obtain ⟨a, xs, rfl, h, q⟩ := r1
        exact ⟨a, xs, rfl, .inr ⟨sqt_mono s h, k _ B H (Ext.refl s) (by simp only [Rep]; exact ⟨a, xs, rfl, h, q⟩)⟩⟩
      · exact h3.elim
    | _ => cases hz
def gAbs : List D → Option D
  | [.int i] => some (.int (if i < 0 then -i else i))
  | _ => none
theorem rdbs1 {B H : Hp} {d : D} {xs : List V} (r : Rdbs G B H [d] xs) : ∃ v, xs = [v] ∧ Rdb G B H d v := by
  obtain ⟨v, t, e, r1, e2⟩ := r
  have e2' : t = [] := e2
  subst e e2'
  exact ⟨v, rfl, r1⟩
theorem rdbs2 {B H : Hp} {d e : D} {xs : List V} (r : Rdbs G B H [d, e] xs) : ∃ v w, xs = [v, w] ∧ Rdb G B H d v ∧ Rdb G B H e w := by
  obtain ⟨v, t, e, r1, v2, t2, e2, r2, e3⟩ := r
  have e3' : t2 = [] := e3
  subst e e2 e3'
  exact ⟨v, v2, rfl, r1, r2⟩
theorem ci_abs : CallI G (fun xs H Q => ∃ i, xs = [.int i] ∧ Q (.int (if i < 0 then -i else i)) H) gAbs := fun B H ds xs z Q s r hz k => by
  unfold gAbs at hz
  split at hz
  · cases hz
    obtain ⟨v, rfl, r1⟩ := rdbs1 r
    have v' := rdb_int r1
    subst v'
    exact ⟨_, rfl, k _ B H (Ext.refl s) rep_int⟩
  · cases hz
def gMax2 : List D → Option D
  | [.int i, .int j] => some (.int (if j > i then j else i))
  | _ => none
def gMin2 : List D → Option D
  | [.int i, .int j] => some (.int (if j < i then j else i))
  | _ => none
theorem ci_max2 : CallI G (fun xs H Q => ∃ i j, xs = [.int i, .int j] ∧ Q (.int (if j > i then j else i)) H) gMax2 := fun B H ds xs z Q s r hz k => by
  unfold gMax2 at hz
  split at hz
  · cases hz
    obtain ⟨v, w, rfl, r1, r2⟩ := rdbs2 r
    have v' := rdb_int r1
    have w' := rdb_int r2
    subst v' w'
    exact ⟨_, _, rfl, k _ B H (Ext.refl s) rep_int⟩
  · cases hz
theorem ci_min2 : CallI G (fun xs H Q => ∃ i j, xs = [.int i, .int j] ∧ Q (.int (if j < i then j else i)) H) gMin2 := fun B H ds xs z Q s r hz k => by
  unfold gMin2 at hz
  split at hz
  · cases hz
    obtain ⟨v, w, rfl, r1, r2⟩ := rdbs2 r
    have v' := rdb_int r1
    have w' := rdb_int r2
    subst v' w'
    exact ⟨_, _, rfl, k _ B H (Ext.refl s) rep_int⟩
  · cases hz
/-- all of one kind -/
def intsD : List D → Option (List Int)
  | [] => some []
  | .int i :: ds => (intsD ds).map fun r => i :: r
  | _ :: _ => none
def blsD : List D → Option (List Bool)
  | [] => some []
  | .bl i :: ds => (blsD ds).map fun r => i :: r
  | _ :: _ => none
theorem reps_ints {B : Hp} : ∀ {ds : List D} {vs : List V} {ns : List Int}, Reps G B ds vs → intsD ds = some ns → vs = ns.map V.int
  | [], vs, ns, r, h => by simp only [Reps] at r; cases h; subst r; rfl
  | d :: ds, vs, ns, r, h => by
    simp only [Reps] at r
    obtain ⟨v, t, e, r1, r2⟩ := r
    subst e
    cases d with
    | int i =>
      simp only [intsD] at h
      cases hm : intsD ds with
      | none => rw [hm] at h; cases h
      | some ms =>
        rw [hm] at h
        cases h
        simp only [Rep] at r1
        subst r1
        rw [reps_ints r2 hm]
        rfl
    | _ => cases h
theorem reps_bls {B : Hp} : ∀ {ds : List D} {vs : List V} {ns : List Bool}, Reps G B ds vs → blsD ds = some ns → vs = ns.map V.bl
  | [], vs, ns, r, h => by simp only [Reps] at r; cases h; subst r; rfl
  | d :: ds, vs, ns, r, h => by
    simp only [Reps] at r
    obtain ⟨v, t, e, r1, r2⟩ := r
    subst e
    cases d with
    | bl i =>
      simp only [blsD] at h
      cases hm : blsD ds with
      | none => rw [hm] at h; cases h
      | some ms =>
        rw [hm] at h
        cases h
        simp only [Rep] at r1
        subst r1
        rw [reps_bls r2 hm]
        rfl
    | _ => cases h
/-- a built-in of one list of intsD, of bools -/
theorem ci_seqI {r : List V → Hp → VK → Prop} {g : List Int → Option D} (hr : ∀ (B H : Hp) (a : Addr) (ns : List Int) (z : D) (Q : VK), g ns = some z → SqL G.K H a (ns.map V.int) → (∀ v, Rep G B z v → Q v H) → r [.ref a] H Q) :
    CallI G r (fun ds => match ds with | [.lst es] => (intsD es).bind g | _ => none) := fun B H ds xs z Q s rr hz k => by
  dsimp only at hz
  split at hz
  · rename_i es
    cases hi : intsD es with
    | none => rw [hi] at hz; cases hz
    | some ns =>
      rw [hi] at hz
      obtain ⟨v, rfl, r1⟩ := rdbs1 rr
      obtain ⟨a, vs, rfl, h, q⟩ := rdb_lst s r1
      have e := reps_ints q hi
      subst e
      exact hr B H a ns z Q hz (.of h) fun v r2 => k v B H (Ext.refl s) r2
  · cases hz
theorem ci_seqB {r : List V → Hp → VK → Prop} {g : List Bool → Option D} (hr : ∀ (B H : Hp) (a : Addr) (ns : List Bool) (z : D) (Q : VK), g ns = some z → SqL G.K H a (ns.map V.bl) → (∀ v, Rep G B z v → Q v H) → r [.ref a] H Q) :
    CallI G r (fun ds => match ds with | [.lst es] => (blsD es).bind g | _ => none) := fun B H ds xs z Q s rr hz k => by
  dsimp only at hz
  split at hz
  · rename_i es
    cases hi : blsD es with
    | none => rw [hi] at hz; cases hz
    | some ns =>
      rw [hi] at hz
      obtain ⟨v, rfl, r1⟩ := rdbs1 rr
      obtain ⟨a, vs, rfl, h, q⟩ := rdb_lst s r1
      have e := reps_bls q hi
      subst e
      exact hr B H a ns z Q hz (.of h) fun v r2 => k v B H (Ext.refl s) r2
  · cases hz
def gSum : List D → Option D := fun ds => match ds with | [.lst es] => (intsD es).bind fun ns => some (.int ns.sum) | _ => none
def gAll : List D → Option D := fun ds => match ds with | [.lst es] => (blsD es).bind fun ns => some (.bl (ns.all id)) | _ => none
def gAny : List D → Option D := fun ds => match ds with | [.lst es] => (blsD es).bind fun ns => some (.bl (ns.any id)) | _ => none
def gMax : List D → Option D := fun ds => match ds with | [.lst es] => (intsD es).bind fun ns => ns.max?.map fun m => .int m | _ => none
def gMin : List D → Option D := fun ds => match ds with | [.lst es] => (intsD es).bind fun ns => ns.min?.map fun m => .int m | _ => none
theorem ci_sum : CallI G (rSum G.K) gSum := ci_seqI fun B H a ns z Q hz h k => by cases hz; exact ⟨a, ns, rfl, h, k _ rep_int⟩
theorem ci_all : CallI G (rAll G.K) gAll := ci_seqB fun B H a ns z Q hz h k => by cases hz; exact ⟨a, ns, rfl, h, k _ rep_bl⟩
theorem ci_any : CallI G (rAny G.K) gAny := ci_seqB fun B H a ns z Q hz h k => by cases hz; exact ⟨a, ns, rfl, h, k _ rep_bl⟩
theorem ci_max : CallI G (rMax G.K) gMax := ci_seqI fun B H a ns z Q hz h k => by
  cases hm : ns.max? with
  | none => rw [hm] at hz; cases hz
  | some m =>
    rw [hm] at hz
    cases hz
    have hm' := List.max?_eq_some_iff.mp hm
    refine ⟨a, ns, rfl, h, ?_, fun m' h1 h2 => ?_⟩
    · cases ns with
      | nil => cases hm
      | cons _ _ => exact Nat.succ_pos _
    · have e : m' = m := Int.le_antisymm (hm'.2 m' h1) (h2 m hm'.1)
      subst e
      exact k _ rep_int
theorem ci_min : CallI G (rMin G.K) gMin := ci_seqI fun B H a ns z Q hz h k => by
  cases hm : ns.min? with
  | none => rw [hm] at hz; cases hz
  | some m =>
    rw [hm] at hz
    cases hz
    have hm' := List.min?_eq_some_iff.mp hm
    refine ⟨a, ns, rfl, h, ?_, fun m' h1 h2 => ?_⟩
    · cases ns with
      | nil => cases hm
      | cons _ _ => exact Nat.succ_pos _
    · have e : m' = m := Int.le_antisymm (h2 m hm'.1) (hm'.2 m' h1)
      subst e
      exact k _ rep_int
def gInt : List D → Option D
  | [.int i] => some (.int i)
  | [.bl k] => some (.int (if k then 1 else 0))
  | _ => none
theorem ci_int : CallI G (fun xs H Q => (∃ i, xs = [.int i] ∧ Q (.int i) H) ∨ ∃ k, xs = [.bl k] ∧ Q (.int (if k then 1 else 0)) H) gInt := fun B H ds xs z Q s r hz k => by
  unfold gInt at hz
  split at hz
  · cases hz
    obtain ⟨v, rfl, r1⟩ := rdbs1 r
    have v' := rdb_int r1
    subst v'
    exact .inl ⟨_, rfl, k _ B H (Ext.refl s) rep_int⟩
  · cases hz
    obtain ⟨v, rfl, r1⟩ := rdbs1 r
    have v' := rdb_bl r1
    subst v'
    exact .inr ⟨_, rfl, k _ B H (Ext.refl s) rep_int⟩
  · cases hz
def gStr : List D → Option D
  | [.int i] => if i.natAbs.log2 < 1920 then some (.str (toString i)) else none
  | _ => none
theorem ci_str : CallI G (fun xs H Q => ∃ i, xs = [.int i] ∧ i.natAbs.log2 < 1920 ∧ Q (.str (toString i)) H) gStr := fun B H ds xs z Q s r hz k => by
  unfold gStr at hz
  split at hz
  · split at hz
    · rename_i hl
      cases hz
      obtain ⟨v, rfl, r1⟩ := rdbs1 r
      have v' := rdb_int r1
      subst v'
      exact ⟨_, rfl, hl, k _ B H (Ext.refl s) rep_str⟩
    · cases hz
  · cases hz
end
/-! ### isinstance with a built-in type -/
def D.ty : D → Option String
  | .non => some "NoneType" | .bl _ => some "bool" | .int _ => some "int" | .str _ => some "str" | .lst _ => some "list" | .fls _ => some "list" | .tup _ => some "tuple" | .ctp _ => some "tuple" | .dic _ => some "dict" | .obj _ _ => none | .hdl _ => none
end DL

namespace DL
open PySem PySem.Spec PyProof.Rows L2

/-! ### isinstance -/
def isiB (t T : String) : Bool := t == T || (t == "bool" && T == "int")
def eIsi (T : String) (f : Sto → M D) : Sto → M D := fun ρ => (f ρ).bind fun d => opt (d.ty.map fun t => .bl (isiB t T))
inductive TyY (K : PySem.W.Frag) (H : Hp) : V → Value → Prop where
  | base {x : V} {t : Value} (h : TyX K H x t) : TyY K H x t
  | fT {a : Addr} {o : Obj} {kvs : List (List Key × V)} (e : H a = some (.frz o (.dT kvs))) : TyY K H (.ref a) (.type "dict")
def rIsiY (K : PySem.W.Frag) : List V → Hp → VK → Prop := fun xs H Q => ∃ (x : V) (T : String) (t : Value) (b : Bool), xs = [x, .ty T] ∧ TyY K H x t ∧ PySem.W.kitOne K t (.type T) = some b ∧ Q (.bl b) H
section
variable {X : Cx} {G : Gd} {B H : Hp}
theorem call_isiY : CallR X (.builtin "isinstance") (rIsiY X.K) := by
  intro pins s σ H xs us Q I r h
  obtain ⟨x, T, t, b, rfl, ty, e, q⟩ := h
  cases ty with
  | base ty => exact call_isi pins s σ H _ us Q I r ⟨x, .ty T, t, .type T, b, rfl, .ty T, ty, e, q⟩
  | @fT a ob kvs ea =>
    obtain ⟨u1, u2, rfl, r1, r2⟩ := vals2 r
    cases (show u1 = Value.ref a from r1)
    cases (show u2 = Value.type T from r2)
    obtain ⟨_, _, _, xs, _, o, es, ep, h1, h2, _⟩ := (show ObjOk X.prog X.w H s.heap a (.frz ob (.dT kvs)) from I.hok a _ ea)
    exact PySem.W.kia_one PySem.W.kitx_dict I.kIn ⟨o, h1, h2.1⟩ e (fun z => nomatch z) fun tk => ⟨.bl b, H, I.tok tk, rfl, q⟩
theorem rdb_ty (s : Same B H) {d : D} {v : V} {t : String} (r : Rdb G B H d v) (ht : d.ty = some t) : TyY G.K H v (.type t) := by
  have frz : ∀ {a : Addr} {xs : List V}, SqL G.K H a xs → TyX G.K H (.ref a) (.type "list") := fun {a xs} h => by
    rcases h with (h | ⟨o, h⟩) | ⟨o, its, n, hk, hc, _⟩
    · exact .base (.lst h)
    · exact .base (.frz h)
    · exact .kList hk hc
  have frt : ∀ {a : Addr} {xs : List V}, SqT G.K H a xs → TyX G.K H (.ref a) (.type "tuple") := fun {a xs} h => by
    rcases h with (h | ⟨o, h⟩) | ⟨o, its, n, hk, hc, _⟩
    · exact .base (.tup h)
    · exact .fTuple h
    · exact .kTuple hk hc
  cases d with
  | non => cases ht; rw [rdb_non r]; exact .base (.base .non)
  | bl b => cases ht; rw [rdb_bl r]; exact .base (.base (.bl b))
  | int b => cases ht; rw [rdb_int r]; exact .base (.base (.int b))
  | str b => cases ht; rw [rdb_str r]; exact .base (.base (.str b))
  | lst ds => cases ht; obtain ⟨a, xs, rfl, h, _⟩ := rdb_lst s r; exact .base (.base (.lst h))
  | fls ds => cases ht; obtain ⟨a, xs, rfl, h, _⟩ := rdb_fls s r; exact .base (frz h)
  | tup ds => cases ht; obtain ⟨a, xs, rfl, h, _⟩ := rdb_tup s r; exact .base (.base (.tup h))
  | ctp ds => cases ht; obtain ⟨a, xs, rfl, h, _⟩ := rdb_ctp s r; exact .base (frt h)
  | dic kvs =>
    cases ht
    rcases r with r | ⟨p, rfl, _, h⟩
    · simp only [Rep] at r
      obtain ⟨a, rfl, ⟨t, h, _⟩ | ⟨t, h, _⟩⟩ := r
      · rcases h with h | ⟨o, h⟩
        · exact .base (.base (.dT (s _ _ h)))
        · exact .fT (s _ _ h)
      · rcases h with h | ⟨o, h⟩
        · exact .base (.base (.dK (s _ _ h)))
        · exact .base (.fDict (s _ _ h))
    · rcases h with ⟨t, h, _⟩ | ⟨t, h, _⟩
      · exact .base (.base (.dT h))
      · exact .base (.base (.dK h))
  | obj c fs => cases ht
  | hdl n => cases ht
theorem ty_cases {d : D} {t : String} (h : d.ty = some t) : t ∈ ["NoneType", "bool", "int", "str", "list", "tuple", "dict"] := by
  cases d <;> cases h <;> decide
theorem kit_all {t T : String} (h1 : t ∈ ["NoneType", "bool", "int", "str", "list", "tuple", "dict"]) (h2 : T ∈ ["bool", "int", "str", "list", "tuple"]) : kitB t T = some (isiB t T) := by
  have all : (["NoneType", "bool", "int", "str", "list", "tuple", "dict"].all fun t => ["bool", "int", "str", "list", "tuple"].all fun T => kitB t T == some (isiB t T)) = true := by decide +kernel
  rw [List.all_eq_true] at all
  have a1 := all t h1
  rw [List.all_eq_true] at a1
  exact beq_iff_eq.mp (a1 T h2)
variable {W : WX} {e : Expr} {f : Sto → M D} {x : Str} {p p2 pos : Pos} {T : String}
theorem de_isi (hT : T ∈ ["bool", "int", "str", "list", "tuple"]) (hm : X.mg "isinstance" = none) (hmT : X.mg x = none) (hvT : bootBuiltins x = some (.type T)) (he : PE X e (TR (gd X al mu ex) W f)) (hg : Gl X "isinstance" := by rfl) (hgT : Gl X x := by rfl) (hnT : x ≠ "__name__" := by decide) (hdT : (x == ("__debug__" : Str)) = false := by decide)
    (hs1 : starEach (e :: [.Name x p2]) X.env = (false, eval e X.env) :: starEach [.Name x p2] X.env := by rfl) (hs2 : starEach (.Name x p2 :: []) X.env = (false, eval (.Name x p2) X.env) :: starEach [] X.env := by rfl) (hpl : (backTo pos (starEach [.Name x p2] X.env)).any (·.1) = false := by rfl) :
    PE X (.Call (.Name "isinstance" p) [e, .Name x p2] [] pos) (TD (gd X al mu ex) W (eIsi T f)) :=
  (pe_callB (r := rIsiY X.K) call_isiY hg hm (by decide +kernel) (pa_cons he (pa_cons (pe_bltn (v := .ty T) hgT hmT hvT rfl hnT hdT) pa_nil hs2) hs1) (by decide) (by decide) hs1 hpl).wk fun σ H Q ⟨B0, H0, B, ρ, S, q⟩ => by
    unfold eIsi at q
    refine tr_i S (fun er h => by rw [h] at q; exact q) fun v H1 B1 d x1 r e1 => ?_
    rw [e1] at q
    have q' : DPost (gd X al mu ex) W B H σ Q (opt (d.ty.map fun t => .bl (isiB t T))) := q
    cases ht : d.ty with
    | none => rw [ht] at q'; exact q'.elim
    | some t =>
      rw [ht] at q'
      exact ⟨v, T, .type t, isiB t T, rfl, rdb_ty x1.i' r ht, kit_ty (kit_all (ty_cases ht) hT), q' _ B1 H1 x1 rep_bl⟩
end

/-! ### calls of the text's own defs -/
def spD (K : PySem.W.Frag) (mg : Str → Option Value) (n : Nat) (m : Tbl → List D → M D) : Sp := fun vs H Q E => ∃ al mu ex B ds, ds.length = n ∧ Same B H ∧ TbOk ⟨K, mg, al, mu, ex⟩ B H ∧ Reps ⟨K, mg, al, mu, ex⟩ B ds vs ∧ DPost ⟨K, mg, al, mu, ex⟩ (fun cls d _ H' => E cls d H') B H [] Q (m mu ds)
structure FnR (P : Program) (w : World) (K : PySem.W.Frag) (mg : Str → Option Value) (base : Heap) (k : Nat) (x : Str) (n : Nat) (m : Tbl → List D → M D) : Prop where
  ex : ∃ f fd ps, FnOk P w K mg base (L2.CX P w) k f fd ps (spD K mg n m) ∧ mg x = some (.ref f) ∧ PySem.W.keepIn K (.ref f) = true ∧ Binds K fd ps []
abbrev FnD (P : Program) (w : World) (K : PySem.W.Frag) (mg : Str → Option Value) (base : Heap) (k : Nat) (x : Str) (n : Nat) (m : List D → M D) : Prop := FnR P w K mg base k x n fun _ => m
def LenA (f : Sto → M (List D)) (n : Nat) : Prop := ∀ ρ ds, f ρ = .ok ds → ds.length = n
theorem len_nil : LenA aNil 0 := fun ρ ds h => by cases h; rfl
theorem len_cons {f : Sto → M D} {g : Sto → M (List D)} {n : Nat} (h : LenA g n) : LenA (aCons f g) (n + 1) := fun ρ ds e => by
  unfold aCons at e
  cases hf : f ρ with
  | error er => rw [hf] at e; cases e
  | ok d =>
    rw [hf] at e
    have e' : ((g ρ).bind fun ds => Except.ok (d :: ds)) = Except.ok ds := e
    cases hg : g ρ with
    | error er => rw [hg] at e'; cases e'
    | ok r =>
      rw [hg] at e'
      cases e'
      rw [List.length_cons, h ρ r hg]
def eFn (m : List D → M D) (f : Sto → M (List D)) : Sto → M D := fun ρ => (f ρ).bind m
section
variable {X : Cx} {W : WX} {x : Str} {p pos : Pos} {e : Expr} {es : List Expr} {f : Sto → M (List D)} {k n : Nat} {m : Tbl → List D → M D}
theorem de_fn (F : FnR X.prog X.w X.K X.mg X.base k x n m) (hr : Room k X.A) (tk : Takes X W) (ha : PA X (e :: es) (TAD (gd X al mu ex) W f)) (hl : LenA f n := by repeat (first | exact len_nil | refine len_cons ?_)) (hg : Gl X x := by rfl) (hdb : (x == ("__debug__" : Str)) = false := by decide)
    (he : starEach (e :: es) X.env = (false, eval e X.env) :: starEach es X.env := by rfl) (hpl : (backTo pos (starEach es X.env)).any (·.1) = false := by rfl) :
    PE X (.Call (.Name x p) (e :: es) [] pos) (TD (gd X al mu ex) W (eFn (m mu) f)) := by
  obtain ⟨fa, fd, ps, F, hm, hk, hb⟩ := F.ex
  refine ⟨fun pins s σ H Q I ⟨B0, H0, B, ρ, S, q⟩ => ?_⟩
  unfold eFn at q
  refine wpAny_Call_Name_kw (ld_glob I hg hm ?_ hdb)
  refine PySem.W.callWith_K (h₀ := X.base) I.ok.mod.kin hk (thn (ha.run pos pins s σ H (fun vs H1 => ∃ B1 ds, Ext B H B1 H1 ∧ Reps (gd X al mu ex) B1 ds vs ∧ f ρ = .ok ds) I (tad_i S (fun er h => by rw [h] at q; exact q) fun vs H1 B1 ds x r e => ⟨B1, ds, x, r, e⟩)) fun us s1 ⟨vs, H1, I1, r, B1, ds, x, rr, e1⟩ => ⟨I1.kIn, ?_⟩) he hpl
  rw [e1] at q
  have q' : DPost (gd X al mu ex) W B H σ Q (m mu ds) := q
  refine run_fnS F hr hb (passAt tk σ) I1 r ⟨al, mu, ex, B1, ds, ?_, x.i', S.tb.mono x, rr, ?_⟩
  · exact hl ρ ds e1
  · cases hm : m mu ds with
    | ok d => rw [hm] at q'; exact fun v B' H' x2 r2 => q' v B' H' (x.trans x2) r2
    | error er =>
      rw [hm] at q'
      have q2 := ErOk.mono q' x
      cases er with
      | stuck => exact q2
      | exc c a => exact q2
end
end DL

namespace DL
open PySem PySem.Spec PyProof.Rows L2

/-! ### the store changes -/
section
variable {G : Gd} {B0 H0 B H : Hp} {σ : L2.St} {ρ : Sto} {v : V} {d : D} {p : Addr}
theorem xs_set {s : Option Sl} {w : Option V} {i j : Nat} {c : EC} {o : Option Int} (S : StOk G B0 H0 B H σ ρ) (h : (ρ.set i s)[j]? = some (some (Sl.ex c o))) (hs : ∀ c o, s ≠ some (Sl.ex c o) := by intro _ _ z; cases z) : XsAt G B (σ.set i w)[j]? c o := by
  by_cases hj : i = j
  · subst hj
    by_cases hl : i < ρ.length
    · rw [List.getElem?_set_self hl] at h
      injection h with h
      exact (hs c o h).elim
    · rw [List.getElem?_eq_none (by rw [List.length_set]; omega)] at h; cases h
  · rw [List.getElem?_set_ne hj] at h ⊢
    exact S.xs j c o h
theorem xs_at {s : Option Sl} {i j : Nat} {c : EC} {o : Option Int} (S : StOk G B0 H0 B H σ ρ) (h : (ρ.set i s)[j]? = some (some (Sl.ex c o))) (hs : ∀ c o, s ≠ some (Sl.ex c o) := by intro _ _ z; cases z) : XsAt G B σ[j]? c o := by
  by_cases hj : i = j
  · subst hj
    by_cases hl : i < ρ.length
    · rw [List.getElem?_set_self hl] at h
      injection h with h
      exact (hs c o h).elim
    · rw [List.getElem?_eq_none (by rw [List.length_set]; omega)] at h; cases h
  · rw [List.getElem?_set_ne hj] at h
    exact S.xs j c o h
theorem StOk.set_sh (S : StOk G B0 H0 B H σ ρ) (r : Rep G B d v) (i : Nat) : StOk G B0 H0 B H (σ.set i (some v)) (ρ.set i (some (.sh d))) := by
  refine ⟨S.ext, by rw [List.length_set, List.length_set, S.len], fun j e h => ?_, fun j e h => ?_, fun j k e e' q h1 h2 h3 h4 => ?_, S.tb, fun j c o h => xs_set S h⟩
  · by_cases hj : i = j
    · subst hj
      by_cases hl : i < ρ.length
      · rw [List.getElem?_set_self hl] at h
        cases h
        exact ⟨v, List.getElem?_set_self (by rw [S.len]; exact hl), r⟩
      · rw [List.getElem?_eq_none (by rw [List.length_set]; omega)] at h; cases h
    · rw [List.getElem?_set_ne hj] at h ⊢
      exact S.sh j e h
  · by_cases hj : i = j
    · subst hj
      by_cases hl : i < ρ.length
      · rw [List.getElem?_set_self hl] at h; cases h
      · rw [List.getElem?_eq_none (by rw [List.length_set]; omega)] at h; cases h
    · rw [List.getElem?_set_ne hj] at h ⊢
      exact S.ow j e h
  · have nj : ∀ {j : Nat} {e : D}, (ρ.set i (some (Sl.sh d)))[j]? = some (some (Sl.ow e)) → i ≠ j := fun {j e} h hj => by
      subst hj
      by_cases hl : i < ρ.length
      · rw [List.getElem?_set_self hl] at h; cases h
      · rw [List.getElem?_eq_none (by rw [List.length_set]; omega)] at h; cases h
    have a := nj h1
    have b := nj h2
    rw [List.getElem?_set_ne a] at h1 h3
    rw [List.getElem?_set_ne b] at h2 h4
    exact S.ap j k e e' q h1 h2 h3 h4
theorem StOk.set_ow (S : StOk G B0 H0 B H σ ρ) (h1 : H0 p = none ∧ p ∉ G.al) (h2 : B p = none) (h3 : OwAt G B H p d) (hf : ∀ (j : Nat) (e : D), ρ[j]? = some (some (Sl.ow e)) → σ[j]? ≠ some (some (V.ref p))) (i : Nat) : StOk G B0 H0 B H (σ.set i (some (.ref p))) (ρ.set i (some (.ow d))) := by
  have get : ∀ {j : Nat} {e : D}, (ρ.set i (some (Sl.ow d)))[j]? = some (some (Sl.ow e)) → (i = j ∧ i < ρ.length ∧ e = d) ∨ (i ≠ j ∧ ρ[j]? = some (some (Sl.ow e))) := fun {j e} h => by
    by_cases hj : i = j
    · subst hj
      by_cases hl : i < ρ.length
      · rw [List.getElem?_set_self hl] at h
        cases h
        exact .inl ⟨rfl, hl, rfl⟩
      · rw [List.getElem?_eq_none (by rw [List.length_set]; omega)] at h; cases h
    · rw [List.getElem?_set_ne hj] at h
      exact .inr ⟨hj, h⟩
  refine ⟨S.ext, by rw [List.length_set, List.length_set, S.len], fun j e h => ?_, fun j e h => ?_, fun j k e e' q g1 g2 g3 g4 => ?_, S.tb, fun j c o h => xs_set S h⟩
  · by_cases hj : i = j
    · subst hj
      by_cases hl : i < ρ.length
      · rw [List.getElem?_set_self hl] at h; cases h
      · rw [List.getElem?_eq_none (by rw [List.length_set]; omega)] at h; cases h
    · rw [List.getElem?_set_ne hj] at h ⊢
      exact S.sh j e h
  · rcases get h with ⟨rfl, hl, rfl⟩ | ⟨hj, h'⟩
    · exact ⟨p, List.getElem?_set_self (by rw [S.len]; exact hl), h1, h2, h3⟩
    · rw [List.getElem?_set_ne hj]
      exact S.ow j e h'
  · rcases get g1 with ⟨rfl, hl, rfl⟩ | ⟨hj, h'⟩
    · rcases get g2 with ⟨rfl, _, _⟩ | ⟨hk, h''⟩
      · rfl
      · rw [List.getElem?_set_self (by rw [S.len]; exact hl)] at g3
        cases g3
        rw [List.getElem?_set_ne hk] at g4
        exact (hf k e' h'' g4).elim
    · rcases get g2 with ⟨rfl, hl, _⟩ | ⟨hk, h''⟩
      · rw [List.getElem?_set_self (by rw [S.len]; exact hl)] at g4
        cases g4
        rw [List.getElem?_set_ne hj] at g3
        exact (hf j e h' g3).elim
      · rw [List.getElem?_set_ne hj] at g3
        rw [List.getElem?_set_ne hk] at g4
        exact S.ap j k e e' q h' h'' g3 g4
/-- what is new is nobody's own -/
theorem StOk.fresh_ow {B' H' : Hp} (S : StOk G B0 H0 B H σ ρ) (hp : H p = none) : ∀ (j : Nat) (e : D), ρ[j]? = some (some (Sl.ow e)) → σ[j]? ≠ some (some (V.ref p)) := fun j e h z => by
  obtain ⟨q, h1, _, _, h4⟩ := S.ow j e h
  obtain ⟨o, ho⟩ := h4.get
  rw [z] at h1
  cases h1
  rw [hp] at ho; cases ho
/-- the thing of slot i changes -/
theorem StOk.upd_ow {o : HO} {i : Nat} {d' : D} (S : StOk G B0 H0 B H σ ρ) (hi : ρ[i]? = some (some (Sl.ow d))) (hs : σ[i]? = some (some (V.ref p))) (new : OwAt G B (upd H p o) p d') : StOk G B0 H0 B (upd H p o) σ (ρ.set i (some (.ow d'))) := by
  obtain ⟨p', h1, h2, h3, h4⟩ := S.ow i d hi
  rw [hs] at h1
  cases h1
  have hl : i < ρ.length := (List.getElem?_eq_some_iff.mp hi).1
  refine ⟨⟨S.ext.i, S.ext.b, fun a u e => ?_, fun a u e => ?_, S.ext.n⟩, by rw [List.length_set, S.len], fun j e h => ?_, fun j e h => ?_, fun j k e e' q g1 g2 g3 g4 => ?_, S.tb.keep (Same.refl _) (fun a ha => (S.tb.get ha).1) fun a ha u e => by
    rw [upd_ne (show a ≠ p from fun z => h2.2 (by rw [← z]; exact ha))]; exact e, fun j c o h => xs_at S h⟩
  · rw [upd_ne (ne_of_none e h3)]; exact S.ext.i' a u e
  · rw [upd_ne (ne_of_none e h2.1)]; exact S.ext.h a u e
  · have hj : i ≠ j := fun hj => by subst hj; rw [List.getElem?_set_self hl] at h; cases h
    rw [List.getElem?_set_ne hj] at h
    exact S.sh j e h
  · by_cases hj : i = j
    · subst hj
      rw [List.getElem?_set_self hl] at h
      cases h
      exact ⟨p, hs, h2, h3, new⟩
    · rw [List.getElem?_set_ne hj] at h
      obtain ⟨q, g1, g2, g3, g4⟩ := S.ow j e h
      have hq : q ≠ p := fun z => by subst z; exact hj (S.ap i j d e q hi h hs g1)
      exact ⟨q, g1, g2, g3, g4.mono (Same.refl _) fun u e' => by rw [upd_ne hq]; exact e'⟩
  · have get : ∀ {j : Nat} {e : D}, (ρ.set i (some (Sl.ow d')))[j]? = some (some (Sl.ow e)) → ∃ e0, ρ[j]? = some (some (Sl.ow e0)) := fun {j e} h => by
      by_cases hj : i = j
      · subst hj; exact ⟨d, hi⟩
      · rw [List.getElem?_set_ne hj] at h; exact ⟨e, h⟩
    obtain ⟨e1, k1⟩ := get g1
    obtain ⟨e2, k2⟩ := get g2
    exact S.ap j k e1 e2 q k1 k2 g3 g4
/-- the thing of slot i is shown from now on -/
theorem StOk.freeze {i : Nat} (S : StOk G B0 H0 B H σ ρ) (hi : ρ[i]? = some (some (Sl.ow d))) : ∃ B', StOk G B0 H0 B' H σ (ρ.set i (some (.sh d))) ∧ Same B B' := by
  obtain ⟨p, h1, h2, h3, h4⟩ := S.ow i d hi
  have hl : i < ρ.length := (List.getElem?_eq_some_iff.mp hi).1
  obtain ⟨o, ho, hr⟩ : ∃ o, H p = some o ∧ Rep G (upd B p o) d (.ref p) := by
    cases d with
    | lst ds => obtain ⟨xs, q, r⟩ := h4; exact ⟨_, q, rep_lst upd_same (reps_mono (same_upd h3) _ _ r)⟩
    | dic kvs =>
      rcases h4 with ⟨t, q, r⟩ | ⟨t, q, r⟩
      · exact ⟨_, q, by simp only [Rep]; exact ⟨p, rfl, .inl ⟨t, .inl upd_same, rept_mono (same_upd h3) _ _ r⟩⟩⟩
      · exact ⟨_, q, by simp only [Rep]; exact ⟨p, rfl, .inr ⟨t, .inl upd_same, repk_mono (same_upd h3) _ _ r⟩⟩⟩
    | _ => exact h4.elim
  have sm : Same B (upd B p o) := same_upd h3
  refine ⟨upd B p o, ⟨⟨S.ext.i, S.ext.b.trans sm, fun a u e => ?_, S.ext.h, fun a ha => ?_⟩, by rw [List.length_set, S.len], fun j e h => ?_, fun j e h => ?_, fun j k e e' q g1 g2 g3 g4 => ?_, S.tb.keep sm (fun a ha => by
    rw [upd_ne (show a ≠ p from fun z => h2.2 (by rw [← z]; exact ha))]; exact (S.tb.get ha).1) fun a ha u e => e, fun j c o h => (xs_at S h).mono sm⟩, sm⟩
  · by_cases z : a = p
    · subst z; rw [upd_same] at e; rw [← e]; exact ho
    · rw [upd_ne z] at e; exact S.ext.i' a u e
  · rw [upd_ne fun z => ha (by rw [z]; exact h2.1)]; exact S.ext.n a ha
  · by_cases hj : i = j
    · subst hj
      rw [List.getElem?_set_self hl] at h
      cases h
      exact ⟨_, h1, hr⟩
    · rw [List.getElem?_set_ne hj] at h
      obtain ⟨w, g1, g2⟩ := S.sh j e h
      exact ⟨w, g1, rep_mono sm _ _ g2⟩
  · have hj : i ≠ j := fun hj => by subst hj; rw [List.getElem?_set_self hl] at h; cases h
    rw [List.getElem?_set_ne hj] at h
    obtain ⟨q, g1, g2, g3, g4⟩ := S.ow j e h
    have hq : q ≠ p := fun z => by subst z; exact hj (S.ap i j d e q hi h h1 g1)
    exact ⟨q, g1, g2, by rw [upd_ne hq]; exact g3, g4.mono sm fun u e' => e'⟩
  · have get : ∀ {j : Nat} {e : D}, (ρ.set i (some (Sl.sh d)))[j]? = some (some (Sl.ow e)) → ρ[j]? = some (some (Sl.ow e)) := fun {j e} h => by
      by_cases hj : i = j
      · subst hj; rw [List.getElem?_set_self hl] at h; cases h
      · rw [List.getElem?_set_ne hj] at h; exact h
    exact S.ap j k e e' q (get g1) (get g2) g3 g4
/-- a slot is forgotten -/
theorem StOk.forget (S : StOk G B0 H0 B H σ ρ) (i : Nat) : StOk G B0 H0 B H (σ.set i none) (ρ.set i none) := by
  have get : ∀ {j : Nat} {s : Sl}, (ρ.set i none)[j]? = some (some s) → i ≠ j ∧ ρ[j]? = some (some s) := fun {j e} h => by
    by_cases hj : i = j
    · subst hj
      by_cases hl : i < ρ.length
      · rw [List.getElem?_set_self hl] at h; cases h
      · rw [List.getElem?_eq_none (by rw [List.length_set]; omega)] at h; cases h
    · rw [List.getElem?_set_ne hj] at h
      exact ⟨hj, h⟩
  refine ⟨S.ext, by rw [List.length_set, List.length_set, S.len], fun j e h => ?_, fun j e h => ?_, fun j k e e' q g1 g2 g3 g4 => ?_, S.tb, fun j c o h => xs_set S h⟩
  · obtain ⟨hj, h'⟩ := get h
    rw [List.getElem?_set_ne hj]; exact S.sh j e h'
  · obtain ⟨hj, h'⟩ := get h
    rw [List.getElem?_set_ne hj]; exact S.ow j e h'
  · obtain ⟨hj, h'⟩ := get g1
    obtain ⟨hk, h''⟩ := get g2
    rw [List.getElem?_set_ne hj] at g3
    rw [List.getElem?_set_ne hk] at g4
    exact S.ap j k e e' q h' h'' g3 g4
def wipeS (ρ : Sto) : List Nat → Sto
  | [] => ρ
  | v :: vs => (wipeS ρ vs).set v none
theorem StOk.wipe (S : StOk G B0 H0 B H σ ρ) : ∀ vs : List Nat, StOk G B0 H0 B H (L2.wipe σ vs) (wipeS ρ vs)
  | [] => S
  | v :: vs => (S.wipe vs).forget v
/-- the ground is laid anew: what is seen now -/
def over (B H0 : Hp) : Hp := fun a => match B a with | some o => some o | none => H0 a
theorem over_none {B H0 : Hp} {a : Addr} : over B H0 a = none ↔ B a = none ∧ H0 a = none := by
  unfold over
  cases B a with
  | none => simp
  | some o => simp
theorem StOk.rebase (S : StOk G B0 H0 B H σ ρ) : StOk G B (over B H0) B H σ ρ := by
  refine ⟨⟨fun a u e => ?_, Same.refl _, S.ext.i', fun a u e => ?_, fun _ _ => rfl⟩, S.len, S.sh, fun i e h => ?_, S.ap, S.tb, S.xs⟩
  · unfold over; rw [e]
  · unfold over at e
    cases hb : B a with
    | some o => rw [hb] at e; cases e; exact S.ext.i' a _ hb
    | none => rw [hb] at e; exact S.ext.h a u e
  · obtain ⟨p, h1, h2, h3, h4⟩ := S.ow i e h
    exact ⟨p, h1, ⟨over_none.mpr ⟨h3, h2.1⟩, h2.2⟩, h3, h4⟩
theorem Ext.unbase {B1 H1 : Hp} (x : Ext B0 H0 B H) (y : Ext B (over B H0) B1 H1) : Ext B0 H0 B1 H1 := by
  refine ⟨x.i, x.b.trans y.b, y.i', fun a u e => ?_, fun a ha => ?_⟩
  · refine y.h a u ?_
    unfold over
    cases hb : B a with
    | some o =>
      have h1 := x.i' a o hb
      have h2 := x.h a u e
      rw [h1] at h2
      cases h2; rfl
    | none => exact e
  · rw [y.n a (fun z => ha (over_none.mp z).2), x.n a ha]
theorem StOk.unbase {B1 H1 : Hp} {σ1 : L2.St} {ρ1 : Sto} (x : Ext B0 H0 B H) (S : StOk G B (over B H0) B1 H1 σ1 ρ1) : StOk G B0 H0 B1 H1 σ1 ρ1 :=
  ⟨x.unbase S.ext, S.len, S.sh, fun i e h => by
    obtain ⟨p, h1, h2, h3, h4⟩ := S.ow i e h
    exact ⟨p, h1, ⟨(over_none.mp h2.1).2, h2.2⟩, h3, h4⟩, S.ap, S.tb, S.xs⟩
theorem RtOk.unbase {Q : VK} {s : Sl} (x : Ext B0 H0 B H) (r : RtOk G B0 H0 Q s) : RtOk G B (over B H0) Q s := by
  cases s with
  | sh d => exact fun v B' H' y q => r v B' H' (x.unbase y) q
  | ow d => exact fun p B' H' y h1 h2 h3 => r p B' H' (x.unbase y) (over_none.mp h1).2 h2 h3
  | ex c o => exact r.elim
theorem SPost.rebase {W : WX} {Dn : Ends} {r : Res} (x : Ext B0 H0 B H) (q : SPost G W B0 H0 Dn r) : SPost G W B (over B H0) Dn r := by
  cases r with
  | nx ρ => exact fun σ B1 H1 S => q σ B1 H1 (S.unbase x)
  | rt s => exact RtOk.unbase x q
  | bk ρ => exact fun σ B1 H1 S => q σ B1 H1 (S.unbase x)
  | ct ρ => exact fun σ B1 H1 S => q σ B1 H1 (S.unbase x)
  | er e ρ => exact fun σ B1 H1 S => q σ B1 H1 (S.unbase x)
end

/-! ### statements -/
def sSeq (g h : Sto → Res) : Sto → Res := fun ρ => match g ρ with
  | .nx ρ' => h ρ'
  | r => r
def sNil : Sto → Res := fun ρ => .nx ρ
def sSet (i : Nat) (f : Sto → M D) : Sto → Res := fun ρ => match f ρ with
  | .ok d => .nx (ρ.set i (some (.sh d)))
  | .error e => .er e ρ
def sSetF (i : Nat) (f : Sto → M D) : Sto → Res := fun ρ => match f ρ with
  | .ok d => .nx (ρ.set i (some (.ow d)))
  | .error e => .er e ρ
def sExpr (f : Sto → M D) : Sto → Res := fun ρ => match f ρ with
  | .ok _ => .nx ρ
  | .error e => .er e ρ
def sRet (f : Sto → M D) : Sto → Res := fun ρ => match f ρ with
  | .ok d => .rt (.sh d)
  | .error e => .er e ρ
def sRetF (f : Sto → M D) : Sto → Res := fun ρ => match f ρ with
  | .ok d => .rt (.ow d)
  | .error e => .er e ρ
def sRetO (i : Nat) : Sto → Res := fun ρ => match ρ[i]? with
  | some (some s) => .rt s
  | _ => .er .stuck ρ
def sRetN : Sto → Res := fun _ => .rt (.sh .non)
def sIf (c : Sto → M Bool) (g h : Sto → Res) : Sto → Res := fun ρ => match c ρ with
  | .ok true => g ρ
  | .ok false => h ρ
  | .error e => .er e ρ
def sBreak : Sto → Res := fun ρ => .bk ρ
def sCont : Sto → Res := fun ρ => .ct ρ
def sRaise (c : EC) (a : Option Int) : Sto → Res := fun ρ => .er (.exc c a) ρ
def wl (c : Sto → M Bool) (g : Sto → Res) : Nat → Sto → Res
  | 0, ρ => .er .stuck ρ
  | n + 1, ρ => match c ρ with
    | .error e => .er e ρ
    | .ok false => .nx ρ
    | .ok true => match g ρ with
      | .nx ρ' => wl c g n ρ'
      | .ct ρ' => wl c g n ρ'
      | .bk ρ' => .nx ρ'
      | r => r
def sWhile (μ : Sto → Nat) (c : Sto → M Bool) (g : Sto → Res) : Sto → Res := fun ρ => wl c g (μ ρ) ρ
def fl (b : D → Sto → Option Sto) (g : Sto → Res) : List D → Sto → Res
  | [], ρ => .nx ρ
  | x :: xs, ρ => match b x ρ with
    | none => .er .stuck ρ
    | some ρ1 => match g ρ1 with
      | .nx ρ' => fl b g xs ρ'
      | .ct ρ' => fl b g xs ρ'
      | .bk ρ' => .nx ρ'
      | r => r
def sFor (f : Sto → M (List D)) (b : D → Sto → Option Sto) (g : Sto → Res) : Sto → Res := fun ρ => match f ρ with
  | .ok ds => fl b g ds ρ
  | .error e => .er e ρ
section
variable {X : Cx} {W : WX} {st : Stmt} {rest : List Stmt} {g h : Sto → Res} {f : Sto → M D} {c : Sto → M Bool} {e : Expr} {pos : Pos} {i : Nat} {x : Str}
theorem ss_nil : PSs X [] (TSD (gd X al mu ex) W sNil) := pss_nil.wk fun Dn σ H ⟨B0, H0, B, ρ, S, q⟩ => q σ B H S
theorem ss_one (h1 : PS X st (TSD (gd X al mu ex) W g)) : PSs X [st] (TSD (gd X al mu ex) W g) := pss_one h1
theorem ss_cons (h1 : PS X st (TSD (gd X al mu ex) W g)) (h2 : PSs X rest (TSD (gd X al mu ex) W h)) : PSs X (st :: rest) (TSD (gd X al mu ex) W (sSeq g h)) := (pss_cons h1 h2).wk fun Dn σ H ⟨B0, H0, B, ρ, S, q⟩ => by
  refine ⟨B0, H0, B, ρ, S, ?_⟩
  unfold sSeq at q
  cases hr : g ρ with
  | nx ρ' =>
    rw [hr] at q
    exact fun σ' B' H' S' => ⟨B0, H0, B', ρ', S', q⟩
  | rt s => rw [hr] at q; exact q
  | bk ρ' => rw [hr] at q; exact q
  | ct ρ' => rw [hr] at q; exact q
  | er er ρ' => rw [hr] at q; exact q
theorem ds_pass : PS X (.Pass pos) (TSD (gd X al mu ex) W sNil) := ps_pass.wk fun Dn σ H ⟨B0, H0, B, ρ, S, q⟩ => q σ B H S
theorem ds_doc {y : Str} {j pos'} : PS X (.Expr (.Constant (.str y) j pos) pos') (TSD (gd X al mu ex) W sNil) := ps_doc.wk fun Dn σ H ⟨B0, H0, B, ρ, S, q⟩ => q σ B H S
theorem ds_break : PS X (.Break pos) (TSD (gd X al mu ex) W sBreak) := ps_break.wk fun Dn σ H ⟨B0, H0, B, ρ, S, q⟩ => q σ B H S
theorem ds_cont : PS X (.Continue pos) (TSD (gd X al mu ex) W sCont) := ps_continue.wk fun Dn σ H ⟨B0, H0, B, ρ, S, q⟩ => q σ B H S
theorem ds_set (i : Nat) {pos' : Pos} (hN : X.N.Nodup) (he : PE X e (TD (gd X al mu ex) W f)) (hi : X.N[i]? = some x := by rfl) (hx : Loc X.env.scope x := by first | exact Or.inl rfl | exact Or.inr rfl) (hs : swapsWith e (some (.Name x pos')) pos.line X.env = pure false := by rfl) (hf : X.fn x = true ∨ X.env.scope.names.lookup x = some .local := by first | exact .inl rfl | exact .inr rfl) :
    PS X (.Assign [.Name x pos'] e pos) (TSD (gd X al mu ex) W (sSet i f)) := (ps_set hN hi hx he hs hf).wk fun Dn σ H ⟨B0, H0, B, ρ, S, q⟩ => by
  unfold sSet at q
  refine td_i S (fun er h => by rw [h] at q; exact q σ B H S) fun v H1 B1 d x r e => ?_
  rw [e] at q
  exact q _ B1 H1 ((S.mono x).set_sh r i)
theorem setF_ok {G : Gd} {Dn : Ends} {B0 H0 B H : Hp} {σ : L2.St} {ρ : Sto} (S : StOk G B0 H0 B H σ ρ) (q : SPost G W B0 H0 Dn (sSetF i f ρ)) : TF G W f σ H fun v H' => gName i v σ H' Dn.nx := by
  unfold sSetF at q
  refine tf_i S (fun er h => by rw [h] at q; exact q σ B H S) fun p H1 B1 d x h1 h2 h3 e => ?_
  rw [e] at q
  exact q _ B1 H1 ((S.mono x).set_ow ⟨S.ext.fresh h1, S.tb.out h1⟩ h2 h3 (fun j e' hj => S.fresh_ow (B' := B) (H' := H) h1 j e' hj) i)
theorem ds_setF (i : Nat) {pos' : Pos} (hN : X.N.Nodup) (he : PE X e (TF (gd X al mu ex) W f)) (hi : X.N[i]? = some x := by rfl) (hx : Loc X.env.scope x := by first | exact Or.inl rfl | exact Or.inr rfl) (hs : swapsWith e (some (.Name x pos')) pos.line X.env = pure false := by rfl) (hf : X.fn x = true ∨ X.env.scope.names.lookup x = some .local := by first | exact .inl rfl | exact .inr rfl) :
    PS X (.Assign [.Name x pos'] e pos) (TSD (gd X al mu ex) W (sSetF i f)) := (ps_set hN hi hx he hs hf).wk fun Dn σ H ⟨B0, H0, B, ρ, S, q⟩ => setF_ok S q
theorem ds_expr (he : PE X e (TD (gd X al mu ex) W f)) (hs : swapsWith e none pos.line X.env = pure false := by rfl) : PS X (.Expr e pos) (TSD (gd X al mu ex) W (sExpr f)) := (ps_expr he hs).wk fun Dn σ H ⟨B0, H0, B, ρ, S, q⟩ => by
  unfold sExpr at q
  refine td_i S (fun er h => by rw [h] at q; exact q σ B H S) fun v H1 B1 d x r e => ?_
  rw [e] at q
  exact q _ B1 H1 (S.mono x)
theorem ds_ret (he : PE X e (TD (gd X al mu ex) W f)) : PS X (.Return (some e) pos) (TSD (gd X al mu ex) W (sRet f)) := (ps_ret he).wk fun Dn σ H ⟨B0, H0, B, ρ, S, q⟩ => by
  unfold sRet at q
  refine td_i S (fun er h => by rw [h] at q; exact q σ B H S) fun v H1 B1 d x r e => ?_
  rw [e] at q
  exact q v B1 H1 (S.ext.trans x) r
theorem ds_retF (he : PE X e (TF (gd X al mu ex) W f)) : PS X (.Return (some e) pos) (TSD (gd X al mu ex) W (sRetF f)) := (ps_ret he).wk fun Dn σ H ⟨B0, H0, B, ρ, S, q⟩ => by
  unfold sRetF at q
  refine tf_i S (fun er h => by rw [h] at q; exact q σ B H S) fun p H1 B1 d x h1 h2 h3 e => ?_
  rw [e] at q
  exact q p B1 H1 (S.ext.trans x) (S.ext.fresh h1) h2 h3
theorem ds_retO (i : Nat) {pos' : Pos} (hN : X.N[i]? = some x := by rfl) (hv : Vis X.env.scope x := by first | exact Or.inl rfl | exact Or.inr (Or.inl rfl) | exact Or.inr (Or.inr rfl)) (hd : (x == ("__debug__" : Str)) = false := by decide)
    (hcd : (x == ("__classdict__" : Str)) = false := by decide) : PS X (.Return (some (.Name x pos')) pos) (TSD (gd X al mu ex) W (sRetO i)) := (ps_ret (pe_var hN hv hd hcd)).wk fun Dn σ H ⟨B0, H0, B, ρ, S, q⟩ => by
  unfold sRetO at q
  cases hr : ρ[i]? with
  | none => rw [hr] at q; exact (q σ B H S).elim
  | some o =>
    cases o with
    | none => rw [hr] at q; exact (q σ B H S).elim
    | some sl =>
      rw [hr] at q
      cases sl with
      | sh d =>
        obtain ⟨v, h1, h2⟩ := S.sh i d hr
        exact ⟨v, h1, q v B H S.ext h2⟩
      | ow d =>
        obtain ⟨p, h1, h2, h3, h4⟩ := S.ow i d hr
        exact ⟨_, h1, q p B H S.ext h2.1 h3 h4⟩
      | ex c o => exact q.elim
theorem ds_retN : PS X (.Return none pos) (TSD (gd X al mu ex) W sRetN) := ps_retN.wk fun Dn σ H ⟨B0, H0, B, ρ, S, q⟩ => q .non B H S.ext rep_non
theorem ds_if {t : Expr} {a b : List Stmt} (hc : PT X t (TB (gd X al mu ex) W c)) (ha : PSs X a (TSD (gd X al mu ex) W g)) (hb : PSs X b (TSD (gd X al mu ex) W h)) : PS X (.If t a b pos) (TSD (gd X al mu ex) W (sIf c g h)) := (ps_if hc ha hb).wk fun Dn σ H ⟨B0, H0, B, ρ, S, q⟩ => by
  unfold sIf at q
  refine tb_i S (fun er h => by rw [h] at q; exact q σ B H S) fun k H1 B1 x e => ?_
  rw [e] at q
  cases k with
  | true => exact ⟨B0, H0, B1, ρ, S.mono x, q⟩
  | false => exact ⟨B0, H0, B1, ρ, S.mono x, q⟩
theorem ds_while (μ : Sto → Nat) {t : Expr} {body : List Stmt} (hp : PassesOwn (model X.prog X.w) X.A X.env X.xe) (hc : PT X t (TB (gd X al mu ex) W c)) (hb : PSs X body (TSD (gd X al mu ex) W g)) : PS X (.While t body [] pos) (TSD (gd X al mu ex) W (sWhile μ c g)) := (ps_while hp hc hb).wk fun Dn σ H ⟨B0, H0, B, ρ, S, q⟩ => by
  refine ⟨fun m σ H => ∃ B ρ, StOk (gd X al mu ex) B0 H0 B H σ ρ ∧ SPost (gd X al mu ex) W B0 H0 Dn (wl c g m ρ), ⟨μ ρ, B, ρ, S, q⟩, ?_⟩
  rintro m σ1 H1 ⟨B1, ρ1, S1, q1⟩
  cases m with
  | zero => exact (q1 σ1 B1 H1 S1).elim
  | succ n =>
    unfold wl at q1
    refine tb_i S1 (fun er h => by rw [h] at q1; exact q1 σ1 B1 H1 S1) fun k H2 B2 x e => ?_
    rw [e] at q1
    cases k with
    | false => exact q1 σ1 B2 H2 (S1.mono x)
    | true =>
      refine ⟨fun σ' H' => ∃ B' ρ', StOk (gd X al mu ex) B0 H0 B' H' σ' ρ' ∧ SPost (gd X al mu ex) W B0 H0 Dn (wl c g n ρ'), fun σ' H' h' => ⟨n, Nat.lt_succ_self n, h'⟩, B0, H0, B2, ρ1, S1.mono x, ?_⟩
      dsimp only at q1
      cases hr : g ρ1 with
      | nx ρ' => rw [hr] at q1; exact fun σ' B' H' S' => ⟨B', ρ', S', q1⟩
      | ct ρ' => rw [hr] at q1; exact fun σ' B' H' S' => ⟨B', ρ', S', q1⟩
      | bk ρ' => rw [hr] at q1; exact q1
      | rt s => rw [hr] at q1; exact q1
      | er er ρ' => rw [hr] at q1; exact q1
/-- raise C('..') -/
theorem ds_raise {cc : EC} {y : Expr} {C : Addr} (hc : X.calm = true) (tk : Takes X W) (hC : X.mg cc.name = some (.ref C)) (he : PMk X y (fun _ H Q => Q (.ref C) none H)) : PS X (.Raise (some y) none pos) (TSD (gd X al mu ex) W (sRaise cc none)) := (ps_raise hc tk he).wk fun Dn σ H ⟨B0, H0, B, ρ, S, q⟩ => q σ B H S C none B H hC (Ext.refl S.ext.i') rfl
end

/-! ### what a for walks, its targets -/
structure DWalk (G : Gd) (B1 : Hp) (J : It) (ds : List D) : Prop where
  goes : ∀ i B H, i < ds.length → Same B1 B → Same B H → J.go i H
  stops : ∀ B H, Same B1 B → Same B H → J.stop ds.length H
  ylds : ∀ i B H x H', i < ds.length → Same B1 B → Same B H → J.yld i H x H' → ∃ B' d, Ext B H B' H' ∧ ds[i]? = some d ∧ Rep G B' d x
def IPost (G : Gd) (W : WX) (B H : Hp) (σ : L2.St) (R : It → Hp → Prop) : M (List D) → Prop
  | .ok ds => ∀ J B' H', Ext B H B' H' → DWalk G B' J ds → R J H'
  | .error e => ErOk G W B H σ e
def TID (G : Gd) (W : WX) (f : Sto → M (List D)) : TI := fun σ H R => ∃ B0 H0 B ρ, StOk G B0 H0 B H σ ρ ∧ IPost G W B H σ R (f ρ)
def TGD (G : Gd) (b : D → Sto → Option Sto) (is : List Nat) : TG := fun v σ H Q => ∃ B0 H0 B ρ d ρ', StOk G B0 H0 B H σ ρ ∧ Rep G B d v ∧ b d ρ = some ρ' ∧ ∀ σ', StOk G B0 H0 B H σ' ρ' → (∀ j, j ∉ is → σ'[j]? = σ[j]?) → σ'.length = σ.length → Q σ' H
def TGsD (G : Gd) (b : List D → Sto → Option Sto) (is : List Nat) : TGs := fun vs σ H Q => ∃ B0 H0 B ρ ds ρ', StOk G B0 H0 B H σ ρ ∧ Reps G B ds vs ∧ b ds ρ = some ρ' ∧ ∀ σ', StOk G B0 H0 B H σ' ρ' → (∀ j, j ∉ is → σ'[j]? = σ[j]?) → σ'.length = σ.length → Q σ' H
def gNm (i : Nat) : D → Sto → Option Sto := fun d ρ => some (ρ.set i (some (.sh d)))
def gsNil : List D → Sto → Option Sto
  | [], ρ => some ρ
  | _, _ => none
def gsCons (b : D → Sto → Option Sto) (bs : List D → Sto → Option Sto) : List D → Sto → Option Sto
  | d :: ds, ρ => (b d ρ).bind fun ρ' => bs ds ρ'
  | [], _ => none
def gTp (n : Nat) (bs : List D → Sto → Option Sto) : D → Sto → Option Sto
  | .tup ds, ρ => if ds.length = n then bs ds ρ else none
  | .ctp ds, ρ => if ds.length = n then bs ds ρ else none
  | _, _ => none
section
variable {X : Cx} {W : WX} {pos : Pos} {i : Nat} {x : Str}
theorem dg_nm (i : Nat) (hN : X.N.Nodup) (hi : X.N[i]? = some x := by rfl) (hx : Loc X.env.scope x := by first | exact Or.inl rfl | exact Or.inr rfl) (hf : X.fn x = true ∨ X.env.scope.names.lookup x = some .local := by first | exact .inl rfl | exact .inr rfl) : PG X (.Name x pos) (TGD (gd X al mu ex) (gNm i) [i]) := (pg_name hN hi hx hf).wk fun v σ H Q ⟨B0, H0, B, ρ, d, ρ', S, r, e, q⟩ => by
  cases e
  exact q _ (S.set_sh r i) (fun j hj => List.getElem?_set_ne (by simpa using Ne.symm (by simpa using hj))) List.length_set
theorem dgs_nil : PGs X [] (TGsD (gd X al mu ex) gsNil []) := pgs_nil.wk fun vs σ H Q ⟨B0, H0, B, ρ, ds, ρ', S, r, e, q⟩ => by
  cases ds with
  | nil =>
    cases e
    simp only [Reps] at r
    exact ⟨r, q σ S (fun _ _ => rfl) rfl⟩
  | cons d ds => cases e
theorem dgs_cons {e : Expr} {es : List Expr} {b : D → Sto → Option Sto} {bs : List D → Sto → Option Sto} {is js : List Nat} (h1 : PG X e (TGD (gd X al mu ex) b is)) (h2 : PGs X es (TGsD (gd X al mu ex) bs js))
    (hs : (assignEach (e :: es) X.env).map (·.2) = assign e X.env :: (assignEach es X.env).map (·.2) := by rfl) : PGs X (e :: es) (TGsD (gd X al mu ex) (gsCons b bs) (is ++ js)) := (pgs_cons h1 h2 hs).wk fun vs σ H Q ⟨B0, H0, B, ρ, ds, ρ', S, r, e, q⟩ => by
  cases ds with
  | nil => cases e
  | cons d ds =>
    simp only [Reps] at r
    obtain ⟨v, t, ev, r1, r2⟩ := r
    have e : ((b d ρ).bind fun ρ' => bs ds ρ') = some ρ' := e
    cases hb : b d ρ with
    | none => rw [hb] at e; cases e
    | some ρ1 =>
      rw [hb] at e
      refine ⟨v, t, ev, B0, H0, B, ρ, d, ρ1, S, r1, hb, fun σ1 S1 a1 l1 => ⟨B0, H0, B, ρ1, ds, ρ', S1, r2, e, fun σ2 S2 a2 l2 => q σ2 S2 (fun j hj => ?_) (l2.trans l1)⟩⟩
      rw [List.mem_append, not_or] at hj
      rw [a2 j hj.2, a1 j hj.1]
theorem dg_tp {es : List Expr} {k : Nat} {bs : List D → Sto → Option Sto} {is : List Nat} {n : Nat} (hc : X.calm = true) (h : PGs X es (TGsD (gd X al mu ex) bs is))
    (hn : (assignEach es X.env).length = n := by rfl) (hst : (assignEach es X.env).findIdx? (·.1) = none := by rfl) : PG X (.Tuple es k pos) (TGD (gd X al mu ex) (gTp n bs) is) := (pg_tup hc h hn hst).wk fun v σ H Q ⟨B0, H0, B, ρ, d, ρ', S, r, e, q⟩ => by
  cases d with
  | tup ds =>
    simp only [gTp] at e
    split at e
    · rename_i hl
      simp only [Rep] at r
      obtain ⟨a, xs, rfl, ha, rs⟩ := r
      exact ⟨a, xs, rfl, .of (S.ext.i' _ _ ha), by rw [reps_len rs]; exact hl, B0, H0, B, ρ, ds, ρ', S, rs, e, q⟩
    · cases e
  | ctp ds =>
    simp only [gTp] at e
    split at e
    · rename_i hl
      simp only [Rep] at r
      obtain ⟨a, xs, rfl, ha, rs⟩ := r
      exact ⟨a, xs, rfl, sqt_mono S.ext.i' ha, by rw [reps_len rs]; exact hl, B0, H0, B, ρ, ds, ρ', S, rs, e, q⟩
    · cases e
  | _ => cases e
end
section
variable {X : Cx} {W : WX} {tg e : Expr} {f : Sto → M D} {pos : Pos}
theorem walk_lst {G : Gd} {B1 : Hp} {a : Addr} {xs : List V} {ds : List D} (K : PySem.W.Frag) (h : ∀ B H, Same B1 B → Same B H → SqL K H a xs) (r : Reps G B1 ds xs) : DWalk G B1 (Itl K a) ds where
  goes := fun i B H hi s t => by
    obtain ⟨x, hx⟩ : ∃ x, xs[i]? = some x := ⟨xs[i]'(by rw [reps_len r]; exact hi), List.getElem?_eq_getElem _⟩
    exact ⟨xs, x, h B H s t, hx⟩
  stops := fun B H s t => ⟨xs, h B H s t, by rw [reps_len r]; exact Nat.le_refl _⟩
  ylds := fun i B H x H' hi s t y => by
    obtain ⟨rfl, y⟩ := y
    have hx := y xs (h B H' s t)
    obtain ⟨d, hd, rd⟩ := reps_get' r hx
    exact ⟨B, d, Ext.refl t, hd, rep_mono s _ _ rd⟩
theorem walk_tp {G : Gd} {B1 : Hp} {a : Addr} {xs : List V} {ds : List D} (K : PySem.W.Frag) (h : ∀ B H, Same B1 B → Same B H → SqT K H a xs) (r : Reps G B1 ds xs) : DWalk G B1 (Itt K a) ds where
  goes := fun i B H hi s t => by
    obtain ⟨x, hx⟩ : ∃ x, xs[i]? = some x := ⟨xs[i]'(by rw [reps_len r]; exact hi), List.getElem?_eq_getElem _⟩
    exact ⟨xs, x, h B H s t, hx⟩
  stops := fun B H s t => ⟨xs, h B H s t, by rw [reps_len r]; exact Nat.le_refl _⟩
  ylds := fun i B H x H' hi s t y => by
    obtain ⟨rfl, y⟩ := y
    have hx := y xs (h B H' s t)
    obtain ⟨d, hd, rd⟩ := reps_get' r hx
    exact ⟨B, d, Ext.refl t, hd, rep_mono s _ _ rd⟩
/-- over a shared list -/
def iL (f : Sto → M D) : Sto → M (List D) := fun ρ => match f ρ with
  | .ok (.lst ds) => .ok ds
  | .ok (.fls ds) => .ok ds
  | .ok _ => .error .stuck
  | .error e => .error e
/-- .. a shared tuple -/
def iT (f : Sto → M D) : Sto → M (List D) := fun ρ => match f ρ with
  | .ok (.tup ds) => .ok ds
  | .ok (.ctp ds) => .ok ds
  | .ok _ => .error .stuck
  | .error e => .error e
theorem di_list (he : PE X e (TD (gd X al mu ex) W f)) : PI X tg e (TID (gd X al mu ex) W (iL f)) := (pi_list he).wk fun σ H R ⟨B0, H0, B, ρ, S, q⟩ => by
  unfold iL at q
  refine td_i S (fun er h => by rw [h] at q; exact q) fun v H1 B1 d x r e => ?_
  rw [e] at q
  cases d with
  | lst ds =>
    simp only [Rep] at r
    obtain ⟨a, xs, rfl, ha, rs⟩ := r
    exact ⟨a, rfl, ⟨xs, .of (x.i' _ _ ha)⟩, q _ B1 H1 x (walk_lst X.K (fun B H s t => .of (t _ _ (s _ _ ha))) rs)⟩
  | fls ds =>
    simp only [Rep] at r
    obtain ⟨a, xs, rfl, ha, rs⟩ := r
    exact ⟨a, rfl, ⟨xs, sql_mono x.i' ha⟩, q _ B1 H1 x (walk_lst X.K (fun B H s t => sql_mono t (sql_mono s ha)) rs)⟩
  | _ => exact q.elim
theorem di_tup (he : PE X e (TD (gd X al mu ex) W f)) : PI X tg e (TID (gd X al mu ex) W (iT f)) := (pi_tup he).wk fun σ H R ⟨B0, H0, B, ρ, S, q⟩ => by
  unfold iT at q
  refine td_i S (fun er h => by rw [h] at q; exact q) fun v H1 B1 d x r e => ?_
  rw [e] at q
  cases d with
  | tup ds =>
    simp only [Rep] at r
    obtain ⟨a, xs, rfl, ha, rs⟩ := r
    exact ⟨a, rfl, ⟨xs, .of (x.i' _ _ ha)⟩, q _ B1 H1 x (walk_tp X.K (fun B H s t => .of (t _ _ (s _ _ ha))) rs)⟩
  | ctp ds =>
    simp only [Rep] at r
    obtain ⟨a, xs, rfl, ha, rs⟩ := r
    exact ⟨a, rfl, ⟨xs, sqt_mono x.i' ha⟩, q _ B1 H1 x (walk_tp X.K (fun B H s t => sqt_mono t (sqt_mono s ha)) rs)⟩
  | _ => exact q.elim
def rngD (lo : Int) (n : Nat) : List D := (List.range n).map fun (i : Nat) => .int (lo + (i : Int))
theorem walk_rng {G : Gd} {B1 : Hp} {lo : Int} {n : Nat} : DWalk G B1 (Itr lo n) (rngD lo n) where
  goes := fun i B H hi s t => by show i < n; simpa [rngD] using hi
  stops := fun B H s t => by show n ≤ (rngD lo n).length; simp [rngD]
  ylds := fun i B H x H' hi s t y => by
    obtain ⟨rfl, rfl⟩ := y
    have hi' : i < n := by simpa [rngD] using hi
    exact ⟨B, .int (lo + i), Ext.refl t, by simp [rngD, hi'], rep_int⟩
def rngOk (i : Int) : Bool := decide (-1000000000 ≤ i) && decide (i ≤ 1000000000)
def iR (g : Sto → M (List D)) : Sto → M (List D) := fun ρ => match g ρ with
  | .ok [.int j] => if rngOk j then .ok (rngD 0 j.toNat) else .error .stuck
  | .ok [.int i, .int j] => if rngOk i && rngOk j then .ok (rngD i (j - i).toNat) else .error .stuck
  | .ok _ => .error .stuck
  | .error e => .error e
theorem rngOk_of {i : Int} (h : rngOk i = true) : -(2 ^ 62) ≤ i ∧ i < 2 ^ 62 := by
  unfold rngOk at h
  rw [Bool.and_eq_true] at h
  have h1 := of_decide_eq_true h.1
  have h2 := of_decide_eq_true h.2
  omega
theorem di_rng1 {a : Expr} {g : Sto → M (List D)} {p : Pos} (hm : X.mg "range" = none) (ha : PA X [a] (TAD (gd X al mu ex) W g)) (hl : LenA g 1 := by repeat (first | exact len_nil | refine len_cons ?_)) (hg : Gl X "range" := by rfl) (hs : starEach [a] X.env = [(false, eval a X.env)] := by rfl) : PI X tg (.Call (.Name "range" p) [a] [] pos) (TID (gd X al mu ex) W (iR g)) := (pi_range1 hg hm ha hs).wk fun σ H R ⟨B0, H0, B, ρ, S, q⟩ => by
  unfold iR at q
  refine tad_i S (fun er h => by rw [h] at q; exact q) fun vs H1 B1 ds x r e => ?_
  have hlen := hl ρ ds e
  rw [e] at q
  match ds, hlen with
  | [d], _ =>
    simp only [Reps] at r
    obtain ⟨v, t, rfl, r1, rfl⟩ := r
    cases d with
    | int j =>
      dsimp only at q
      split at q
      · rename_i hj
        obtain ⟨h1, h2⟩ := rngOk_of hj
        simp only [Rep] at r1
        subst r1
        exact ⟨j, rfl, h1, h2, q _ B1 H1 x walk_rng⟩
      · exact q.elim
    | _ => exact q.elim
theorem di_rng2 {a b : Expr} {g : Sto → M (List D)} {p : Pos} (hm : X.mg "range" = none) (ha : PA X [a, b] (TAD (gd X al mu ex) W g)) (hl : LenA g 2 := by repeat (first | exact len_nil | refine len_cons ?_)) (hg : Gl X "range" := by rfl) (hs : starEach [a, b] X.env = [(false, eval a X.env), (false, eval b X.env)] := by rfl) (hs2 : starEach [b] X.env = [(false, eval b X.env)] := by rfl) : PI X tg (.Call (.Name "range" p) [a, b] [] pos) (TID (gd X al mu ex) W (iR g)) := (pi_range2 hg hm ha hs hs2).wk fun σ H R ⟨B0, H0, B, ρ, S, q⟩ => by
  unfold iR at q
  refine tad_i S (fun er h => by rw [h] at q; exact q) fun vs H1 B1 ds x r e => ?_
  have hlen := hl ρ ds e
  rw [e] at q
  match ds, hlen with
  | [d, d'], _ =>
    simp only [Reps] at r
    obtain ⟨v, t, rfl, r1, v2, t2, rfl, r2, rfl⟩ := r
    cases d with
    | int i =>
      cases d' with
      | int j =>
        dsimp only at q
        split at q
        · rename_i hj
          rw [Bool.and_eq_true] at hj
          obtain ⟨h1, h2⟩ := rngOk_of hj.1
          obtain ⟨h3, h4⟩ := rngOk_of hj.2
          simp only [Rep] at r1 r2
          subst r1 r2
          exact ⟨i, j, rfl, ⟨h1, h2, h3, h4⟩, q _ B1 H1 x walk_rng⟩
        · exact q.elim
      | _ => exact q.elim
    | _ => exact q.elim
theorem ds_for {iter : Expr} {body : List Stmt} {f : Sto → M (List D)} {b : D → Sto → Option Sto} {is : List Nat} {g : Sto → Res} (hp : PassesOwn (model X.prog X.w) X.A X.env X.xe) (hc : X.calm = true) (hi : PI X tg iter (TID (gd X al mu ex) W f)) (hg : PG X tg (TGD (gd X al mu ex) b is)) (hb : PSs X body (TSD (gd X al mu ex) W g))
    (hs : ∀ x, foldedSetIterable iter X.env x = pure x := by intro _; rfl) : PS X (.For tg iter body [] pos) (TSD (gd X al mu ex) W (sFor f b g)) := (ps_for hp hc hi hg hb hs).wk fun Dn σ H ⟨B0, H0, B, ρ, S, q⟩ => by
  unfold sFor at q
  refine ⟨B0, H0, B, ρ, S, ?_⟩
  cases hf : f ρ with
  | error er => rw [hf] at q; exact q σ B H S
  | ok ds =>
    rw [hf] at q
    intro J B1 H1 x w
    have S1 := S.mono x
    have q1 : SPost (gd X al mu ex) W B1 (over B1 H0) Dn (fl b g ds ρ) := SPost.rebase S1.ext q
    refine ⟨fun i m σ H => m = ds.length - i ∧ i ≤ ds.length ∧ ∃ B ρ, StOk (gd X al mu ex) B1 (over B1 H0) B H σ ρ ∧ SPost (gd X al mu ex) W B1 (over B1 H0) Dn (fl b g (ds.drop i) ρ), ⟨_, rfl, Nat.zero_le _, B1, ρ, S1.rebase, by rw [List.drop_zero]; exact q1⟩, ?_⟩
    rintro i m σ2 H2 ⟨rfl, hi, B2, ρ2, S2, q2⟩
    by_cases hlt : i < ds.length
    · refine .inr ⟨w.goes i B2 H2 hlt S2.ext.b S2.ext.i', ?_⟩
      obtain ⟨d, hd⟩ : ∃ d, ds[i]? = some d := ⟨ds[i], List.getElem?_eq_getElem hlt⟩
      have hdrop : ds.drop i = d :: ds.drop (i + 1) := by
        rw [List.drop_eq_getElem_cons hlt]
        have := (List.getElem?_eq_some_iff.mp hd).2
        rw [this]
      rw [hdrop] at q2
      unfold fl at q2
      cases hb' : b d ρ2 with
      | none => rw [hb'] at q2; exact (q2 σ2 B2 H2 S2).elim
      | some ρ3 =>
        rw [hb'] at q2
        dsimp only at q2
        refine ⟨fun σ' H' => ∃ B ρ, StOk (gd X al mu ex) B1 (over B1 H0) B H' σ' ρ ∧ SPost (gd X al mu ex) W B1 (over B1 H0) Dn (fl b g (ds.drop (i + 1)) ρ), fun σ' H' h' => ⟨ds.length - (i + 1), by omega, rfl, hlt, h'⟩, fun y H3 hy => ?_⟩
        obtain ⟨B3, d', x3, hd', rd⟩ := w.ylds i B2 H2 y H3 hlt S2.ext.b S2.ext.i' hy
        rw [hd] at hd'
        cases hd'
        refine ⟨B1, over B1 H0, B3, ρ2, d, ρ3, S2.mono x3, rd, hb', fun σ' S' _ _ => ⟨B1, over B1 H0, B3, ρ3, S', ?_⟩⟩
        cases hr : g ρ3 with
        | nx ρ' => rw [hr] at q2; exact fun σ4 B4 H4 S4 => ⟨B4, ρ', S4, q2⟩
        | ct ρ' => rw [hr] at q2; exact fun σ4 B4 H4 S4 => ⟨B4, ρ', S4, q2⟩
        | bk ρ' => rw [hr] at q2; exact q2
        | rt s => rw [hr] at q2; exact q2
        | er er ρ' => rw [hr] at q2; exact q2
    · have e : i = ds.length := by omega
      subst e
      rw [List.drop_length] at q2
      exact .inl ⟨w.stops B2 H2 S2.ext.b S2.ext.i', q2 σ2 B2 H2 S2⟩
end
end DL

namespace DL
open PySem PySem.Spec PyProof.Rows L2

/-! ### things of one's own are changed -/
def owL (i : Nat) (ρ : Sto) (k : List D → Res) : Res := match ρ[i]? with
  | some (some (.ow (.lst ds))) => k ds
  | _ => .er .stuck ρ
def sApp (i : Nat) (f : Sto → M D) : Sto → Res := fun ρ => owL i ρ fun ds => match f ρ with
  | .error e => .er e ρ
  | .ok d => if lim ds.length then .nx (ρ.set i (some (.ow (.lst (ds ++ [d]))))) else .er .stuck ρ
def sExt (i : Nat) (f : Sto → M D) : Sto → Res := fun ρ => owL i ρ fun ds => match f ρ with
  | .error e => .er e ρ
  | .ok (.lst es) => if lim (ds.length + es.length) then .nx (ρ.set i (some (.ow (.lst (ds ++ es))))) else .er .stuck ρ
  | .ok _ => .er .stuck ρ
def sPut (i : Nat) (fk f : Sto → M D) : Sto → Res := fun ρ => owL i ρ fun ds => match f ρ with
  | .error e => .er e ρ
  | .ok d => match fk ρ with
    | .error e => .er e ρ
    | .ok (.int j) => match ixN ds.length j with
      | some n => .nx (ρ.set i (some (.ow (.lst (ds.set n d)))))
      | none => .er .stuck ρ
    | .ok _ => .er .stuck ρ
def sPop (i j : Nat) : Sto → Res := fun ρ => owL i ρ fun ds => match ds[ds.length - 1]? with
  | some d => .nx ((ρ.set i (some (.ow (.lst ds.dropLast)))).set j (some (.sh d)))
  | none => .er .stuck ρ
def sAug (i : Nat) (g : Int → Int → Int) (f : Sto → M D) : Sto → Res := fun ρ => match ρ[i]? with
  | some (some (.sh (.int a))) => match f ρ with
    | .ok (.int b) => .nx (ρ.set i (some (.sh (.int (g a b)))))
    | .ok _ => .er .stuck ρ
    | .error e => .er e ρ
  | _ => .er .stuck ρ
theorem owL_cases (i : Nat) (ρ : Sto) : (∃ ds, ρ[i]? = some (some (Sl.ow (.lst ds))) ∧ ∀ k, owL i ρ k = k ds) ∨ ∀ k, owL i ρ k = .er .stuck ρ := by
  unfold owL
  cases h : ρ[i]? with
  | none => exact .inr fun _ => rfl
  | some o =>
    cases o with
    | none => exact .inr fun _ => rfl
    | some sl =>
      cases sl with
      | sh d => exact .inr fun _ => rfl
      | ex c o => exact .inr fun _ => rfl
      | ow d =>
        cases d with
        | lst ds => exact .inl ⟨ds, rfl, fun _ => rfl⟩
        | _ => exact .inr fun _ => rfl
section
variable {X : Cx} {W : WX} {e k : Expr} {f fk : Sto → M D} {pos px : Pos} {x : Str}
theorem ds_app (i : Nat) {apos cpos : Pos} (he : PE X e (TD (gd X al mu ex) W f)) (hN : X.N[i]? = some x := by rfl) (hv : Vis X.env.scope x := by first | exact Or.inl rfl | exact Or.inr (Or.inl rfl) | exact Or.inr (Or.inr rfl)) (hd : (x == ("__debug__" : Str)) = false := by decide) (hcd : (x == ("__classdict__" : Str)) = false := by decide)
    (hbase : attributeBase (.Name x px) "append" X.env (eval (.Name x px) X.env) = eval (.Name x px) X.env := by rfl)
    (hfew : ((backTo cpos (starEach (e :: []) X.env)).all (fun x => !x.1) && (backToKw cpos (keywordEach [] X.env)).all (fun x => x.1.isSome)
      && decide ((e :: []).length + ([] : List Keyword).length + (if ([] : List Keyword).isEmpty then 0 else 1) < 30)) = true := by rfl)
    (hline : (apos.endLine == cpos.line) = true := by rfl) (hs : starEach (e :: []) X.env = (false, eval e X.env) :: starEach [] X.env := by rfl) (hsw : swapsWith (.Call (.Attribute (.Name x px) "append" apos) [e] [] cpos) none pos.line X.env = pure false := by rfl) :
    PS X (.Expr (.Call (.Attribute (.Name x px) "append" apos) [e] [] cpos) pos) (TSD (gd X al mu ex) W (sApp i f)) :=
  (ps_expr (pe_bm PySem.F.plainAttrs_list PySem.F.slot_list_append PySem.F.type_list_append mt_append (pe_var hN hv hd hcd) (pa_cons he pa_nil hs) hbase hfew hline hs rfl) hsw).wk fun Dn σ H ⟨B0, H0, B, ρ, S, q⟩ => by
    unfold sApp at q
    rcases owL_cases i ρ with ⟨ds, hi, ek⟩ | ek
    · rw [ek] at q
      obtain ⟨p, h1, h2, h3, xs, h4, rs⟩ := S.ow i _ hi
      refine ⟨_, h1, .inl ⟨rfl, xs, .of h4⟩, td_i S (fun er h => by rw [h] at q; exact q σ B H S) fun v H1 B1 d x r e => ?_⟩
      rw [e] at q
      dsimp only at q
      split at q
      · rename_i hl
        have h4' := x.h _ _ h4
        have S1 := S.mono x
        refine ⟨p, xs, v, rfl, rfl, h4', by rw [reps_len rs]; exact lim_lt hl, q _ B1 _ (S1.upd_ow hi h1 ⟨_, upd_same, reps_app (reps_mono x.b _ _ rs) (reps_one r)⟩)⟩
      · exact (q σ B H S).elim
    · rw [ek] at q; exact (q σ B H S).elim
theorem ds_put (i : Nat) {tpos : Pos} (he : PE X e (TD (gd X al mu ex) W f)) (hk : PE X k (TD (gd X al mu ex) W fk)) (hN : X.N[i]? = some x := by rfl) (hv : Vis X.env.scope x := by first | exact Or.inl rfl | exact Or.inr (Or.inl rfl) | exact Or.inr (Or.inr rfl)) (hd : (x == ("__debug__" : Str)) = false := by decide) (hcd : (x == ("__classdict__" : Str)) = false := by decide)
    (ha : ∀ v, assign (.Subscript (.Name x px) k tpos) X.env v = (do
      let ov ← holding [v] (eval (.Name x px) X.env)
      let iv ← holding [v, ov] (eval k X.env)
      standAt tpos
      holding [v, ov, iv] (setItem ov iv v)
      release [v, ov, iv] []) := by intro _; rfl)
    (hs : swapsWithSole [.Subscript (.Name x px) k tpos] e pos.line X.env = pure false := by rfl) (hw : swappedStores [.Subscript (.Name x px) k tpos] e X.env = pure none := by rfl) (h1 : (assignEach [.Subscript (.Name x px) k tpos] X.env).map (·.2) = [assign (.Subscript (.Name x px) k tpos) X.env] := by rfl) :
    PS X (.Assign [.Subscript (.Name x px) k tpos] e pos) (TSD (gd X al mu ex) W (sPut i fk f)) :=
  (ps_asg he (pg_sub (pe_var hN hv hd hcd) hk set_list ha) hs hw h1).wk fun Dn σ H ⟨B0, H0, B, ρ, S, q⟩ => by
    unfold sPut at q
    rcases owL_cases i ρ with ⟨ds, hi, ek⟩ | ek
    · rw [ek] at q
      obtain ⟨p, h1, h2, h3, xs, h4, rs⟩ := S.ow i _ hi
      refine td_i S (fun er h => by rw [h] at q; exact q σ B H S) fun v H1 B1 d x r e => ?_
      rw [e] at q
      dsimp only at q
      refine ⟨_, h1, td_i (S.mono x) (fun er h => by rw [h] at q; exact ErOk.mono (q σ B H S) x) fun kv H2 B2 kd x2 r2 e2 => ?_⟩
      rw [e2] at q
      cases kd with
      | int j =>
        dsimp only at q
        cases hj : ixN ds.length j with
        | none => rw [hj] at q; exact (q σ B H S).elim
        | some n =>
          rw [hj] at q
          simp only [Rep] at r2
          subst r2
          have x3 := x.trans x2
          have h4' := x3.h _ _ h4
          exact ⟨p, xs, j, n, rfl, rfl, h4', by rw [reps_len rs]; exact hj, q _ B2 _ ((S.mono x3).upd_ow hi h1 ⟨_, upd_same, reps_set (reps_mono x3.b _ _ rs) (rep_mono x2.b _ _ r)⟩)⟩
      | _ => exact (q σ B H S).elim
    · rw [ek] at q
      exact (q σ B H S).elim
theorem ds_aug {op : Operator} {g : Int → Int → Int} (i : Nat) {pos' : Pos} (hN : X.N.Nodup) (hop : PIp X op (ipI g)) (he : PE X e (TD (gd X al mu ex) W f)) (hi : X.N[i]? = some x := by rfl) (hx : Loc X.env.scope x := by first | exact Or.inl rfl | exact Or.inr rfl) (hf : X.fn x = true ∨ X.env.scope.names.lookup x = some .local := by first | exact .inl rfl | exact .inr rfl) :
    PS X (.AugAssign (.Name x pos') op e pos) (TSD (gd X al mu ex) W (sAug i g f)) := (ps_aug hN hi hx he hop hf).wk fun Dn σ H ⟨B0, H0, B, ρ, S, q⟩ => by
  unfold sAug at q
  cases h : ρ[i]? with
  | none => rw [h] at q; exact (q σ B H S).elim
  | some o =>
    rw [h] at q
    cases o with
    | none => exact (q σ B H S).elim
    | some sl =>
      cases sl with
      | ow d => exact (q σ B H S).elim
      | ex c o => exact (q σ B H S).elim
      | sh d =>
        cases d with
        | int a =>
          obtain ⟨v, h1, h2⟩ := S.sh i _ h
          simp only [Rep] at h2
          subst h2
          dsimp only at q
          refine ⟨_, h1, td_i S (fun er h => by rw [h] at q; exact q σ B H S) fun w H1 B1 d x r e => ?_⟩
          rw [e] at q
          cases d with
          | int b =>
            simp only [Rep] at r
            subst r
            exact ⟨a, b, rfl, rfl, q _ B1 H1 ((S.mono x).set_sh rep_int i)⟩
          | _ => exact (q σ B H S).elim
        | _ => exact (q σ B H S).elim
end

/-! ### comprehensions -/
def lcGo (b : D → Sto → Option Sto) (c : Sto → M Bool) (e : Sto → M D) (ρ : Sto) : List D → M (List D)
  | [] => .ok []
  | x :: xs => match b x ρ with
    | none => .error .stuck
    | some ρ1 => match c ρ1 with
      | .error _ => .error .stuck
      | .ok false => lcGo b c e ρ xs
      | .ok true => match e ρ1 with
        | .error _ => .error .stuck
        | .ok y => match lcGo b c e ρ xs with
          | .error _ => .error .stuck
          | .ok ys => .ok (y :: ys)
def eLc (f : Sto → M (List D)) (b : D → Sto → Option Sto) (c : Sto → M Bool) (e : Sto → M D) (vs : List Nat) : Sto → M D := fun ρ => match f ρ with
  | .error er => .error er
  | .ok ds => if lim ds.length then (match lcGo b c e (wipeS ρ vs) ds with
    | .ok ys => .ok (.lst ys)
    | .error _ => .error .stuck) else .error .stuck
def bYes : Sto → M Bool := fun _ => .ok true
abbrev W0 : WX := fun _ _ _ _ => False
theorem wipe_eq {σ σ2 : L2.St} {vs : List Nat} (hl : σ2.length = σ.length) (h : ∀ j, j ∉ vs → σ2[j]? = (L2.wipe σ vs)[j]?) : L2.wipe σ2 vs = L2.wipe σ vs := by
  refine List.ext_getElem? fun j => ?_
  by_cases hj : j ∈ vs
  · have both : ∀ (τ : L2.St) (us : List Nat), j ∈ us → (L2.wipe τ us)[j]? = if j < τ.length then some none else none := by
      intro τ us
      induction us with
      | nil => intro h; cases h
      | cons u us ih =>
        intro h
        show ((L2.wipe τ us).set u none)[j]? = _
        by_cases hu : u = j
        · subst hu
          by_cases hl : u < τ.length
          · rw [List.getElem?_set_self (by rw [wipe_length]; exact hl), if_pos hl]
          · rw [List.getElem?_eq_none (by rw [List.length_set, wipe_length]; omega), if_neg hl]
        · rw [List.getElem?_set_ne hu]
          rcases List.mem_cons.mp h with e | h
          · exact absurd e.symm hu
          · exact ih h
    rw [both σ2 vs hj, both σ vs hj, hl]
  · rw [← h j hj, wipe_out hj]
theorem lc_tr {G : Gd} {W : WX} {f : Sto → M (List D)} {b : D → Sto → Option Sto} {is : List Nat} {c : Sto → M Bool} {e : Sto → M D} {vs : List Nat} (hv : ∀ i ∈ is, i ∈ vs) {σ : L2.St} {H : Hp} {Q : VK} (h : TF G W (eLc f b c e vs) σ H Q) :
    tLc (TID G W f) (TGD G b is) (TB G W0 c) (TD G W0 e) vs σ H Q := by
  obtain ⟨B0, H0, B, ρ, S, q⟩ := h
  refine ⟨B0, H0, B, ρ, S, ?_⟩
  unfold eLc at q
  cases hf : f ρ with
  | error er => rw [hf] at q; exact q
  | ok ds =>
    rw [hf] at q
    dsimp only at q
    split at q
    · rename_i hlim
      cases hgo : lcGo b c e (wipeS ρ vs) ds with
      | error er => rw [hgo] at q; exact q.elim
      | ok ys =>
        rw [hgo] at q
        intro J B1 H1 x w L hL
        have S1 := S.mono x
        refine ⟨fun i m H => m = ds.length - i ∧ i ≤ ds.length ∧ ∃ B acc accV rest, Ext B1 H1 B H ∧ B L = none ∧ H L = some (.lst accV) ∧ Reps G B acc accV ∧ lcGo b c e (wipeS ρ vs) (ds.drop i) = .ok rest ∧ ys = acc ++ rest ∧ acc.length ≤ i,
          ⟨_, rfl, Nat.zero_le _, B1, [], [], ys, Ext.own x.i' hL, none_of_same x.i' hL, upd_same, reps_nil, by rw [List.drop_zero]; exact hgo, rfl, Nat.le_refl _⟩, ?_⟩
        rintro i m H2 ⟨rfl, hi, B2, acc, accV, rest, x2, hb, hl2, ra, hgo2, hys, hacc⟩
        by_cases hlt : i < ds.length
        · refine .inr ⟨w.goes i B2 H2 hlt x2.b x2.i', fun H' => ∃ B acc accV rest, Ext B1 H1 B H' ∧ B L = none ∧ H' L = some (.lst accV) ∧ Reps G B acc accV ∧ lcGo b c e (wipeS ρ vs) (ds.drop (i + 1)) = .ok rest ∧ ys = acc ++ rest ∧ acc.length ≤ i + 1,
            fun H' h' => ⟨ds.length - (i + 1), by omega, rfl, hlt, h'⟩, fun y H3 hy => ?_⟩
          obtain ⟨B3, d, x3, hd, rd⟩ := w.ylds i B2 H2 y H3 hlt x2.b x2.i' hy
          have hdrop : ds.drop i = d :: ds.drop (i + 1) := by
            rw [List.drop_eq_getElem_cons hlt]
            have := (List.getElem?_eq_some_iff.mp hd).2
            rw [this]
          rw [hdrop] at hgo2
          unfold lcGo at hgo2
          cases hbd : b d (wipeS ρ vs) with
          | none => rw [hbd] at hgo2; cases hgo2
          | some ρ3 =>
            rw [hbd] at hgo2
            dsimp only at hgo2
            have x13 := x2.trans x3
            have hL2 : ∀ {B' H' : Hp}, Ext B2 H2 B' H' → B' L = none ∧ H' L = some (.lst accV) := fun y => ⟨by rw [y.n L (by rw [hl2]; simp)]; exact hb, y.h L _ hl2⟩
            refine ⟨B0, H0, B3, wipeS ρ vs, d, ρ3, (S1.mono x13).wipe vs, rd, hbd, fun σ' S' ag lg => ⟨wipe_eq (lg.trans (wipe_length σ vs)) fun j hj => ag j fun z => hj (hv j z), ?_⟩⟩
            · refine tb_i S' (fun er he => by rw [he] at hgo2; cases hgo2) fun k H4 B4 x4 ek => ?_
              rw [ek] at hgo2
              cases k with
              | false =>
                have x24 := x3.trans x4
                obtain ⟨g1, g2⟩ := hL2 x24
                exact ⟨B4, acc, accV, rest, x13.trans x4, g1, g2, reps_mono x24.b _ _ ra, hgo2, hys, by omega⟩
              | true =>
                dsimp only at hgo2
                refine td_i (S'.mono x4) (fun er he => by rw [he] at hgo2; cases hgo2) fun v H5 B5 dy x5 ry ey => ?_
                rw [ey] at hgo2
                dsimp only at hgo2
                cases hr : lcGo b c e (wipeS ρ vs) (ds.drop (i + 1)) with
                | error er => rw [hr] at hgo2; cases hgo2
                | ok rest' =>
                  rw [hr] at hgo2
                  cases hgo2
                  have x25 := (x3.trans x4).trans x5
                  obtain ⟨g1, g2⟩ := hL2 x25
                  have x15 := (x13.trans x4).trans x5
                  have lenA := reps_len ra
                  refine ⟨accV, g2, ?_, B5, acc ++ [dy], accV ++ [v], rest', ⟨x15.i, x15.b, fun a u q => ?_, fun a u q => ?_, x15.n⟩, g1, upd_same, reps_app (reps_mono x25.b _ _ ra) (reps_one ry), rfl, by rw [hys, List.append_assoc]; rfl, by rw [List.length_append]; simp; omega⟩
                  · have := lim_lt hlim; omega
                  · rw [upd_ne (ne_of_none q g1)]; exact x15.i' a u q
                  · rw [upd_ne (ne_of_none q hL)]; exact x15.h a u q
        · have e : i = ds.length := by omega
          subst e
          rw [List.drop_length] at hgo2
          cases hgo2
          rw [List.append_nil] at hys
          subst hys
          exact .inl ⟨w.stops B2 H2 x2.b x2.i', q L B2 H2 (x.trans x2) (x.fresh hL) hb ⟨accV, hl2, ra⟩⟩
    · exact q.elim
end DL

namespace DL
open PySem PySem.Spec PyProof.Rows L2
section
variable {X : Cx} {W : WX} {elt tg iter : Expr} {ifs : List Expr} {scope : Scope} {own : List (Str × Nat)} {pos : Pos} {f : Sto → M (List D)} {b : D → Sto → Option Sto} {is : List Nat} {c : Sto → M Bool} {e : Sto → M D}
theorem ts_nil : PTs X [] (TB (gd X al mu ex) W0 bYes) := ⟨fun pins s σ H Q I ⟨B0, H0, B, ρ, S, q⟩ => pts_nil.run pins s σ H Q I (q B H (Ext.refl S.ext.i'))⟩
theorem ts_one {t : Expr} (h : PT X t (TB (gd X al mu ex) W0 c)) : PTs X [t] (TB (gd X al mu ex) W0 c) := pts_one h
theorem df_lc (hN : X.N.Nodup) (own : List (Str × Nat)) (hi : PI X tg iter (TID (gd X al mu ex) W f)) (ok : blkC X.N X.env.scope scope own = true)
    (hg : ∀ (s : Shared) (H : Hp) (C : Addr) (cl : List (Str × Addr)) (fp : List Addr), PG (X.blk s H scope (compEnvC scope cl C X.env) fp) tg (TGD (gd X al mu ex) b is)) (ht : ∀ (s : Shared) (H : Hp) (C : Addr) (cl : List (Str × Addr)) (fp : List Addr), PTs (X.blk s H scope (compEnvC scope cl C X.env) fp) ifs (TB (gd X al mu ex) W0 c))
    (he : ∀ (s : Shared) (H : Hp) (C : Addr) (cl : List (Str × Addr)) (fp : List Addr), PE (X.blk s H scope (compEnvC scope cl C X.env) fp) elt (TD (gd X al mu ex) W0 e)) (hv : ∀ i ∈ is, i ∈ own.map (·.2) := by decide) (hc : X.calm = true := by rfl) (hs : ∀ x, foldedSetIterable iter X.env x = pure x := by intro _; rfl) :
    PE X (.ListComp elt [⟨tg, iter, ifs, 0⟩] scope pos) (TF (gd X al mu ex) W (eLc f b c e (own.map (·.2)))) := (pe_lc hc hN hi (blkOk_by ok) hg ht he hs).wk fun σ H Q h => lc_tr hv h
variable {i : Nat} {y : Str} {py spos : Pos}
theorem ds_setLcF (i : Nat) (hN : X.N.Nodup) (own : List (Str × Nat)) (hi : PI X tg iter (TID (gd X al mu ex) W f)) (ok : blkC X.N X.env.scope scope own = true)
    (hg : ∀ (s : Shared) (H : Hp) (C : Addr) (cl : List (Str × Addr)) (fp : List Addr), PG (X.blk s H scope (compEnvC scope cl C X.env) fp) tg (TGD (gd X al mu ex) b is)) (ht : ∀ (s : Shared) (H : Hp) (C : Addr) (cl : List (Str × Addr)) (fp : List Addr), PTs (X.blk s H scope (compEnvC scope cl C X.env) fp) ifs (TB (gd X al mu ex) W0 c))
    (he : ∀ (s : Shared) (H : Hp) (C : Addr) (cl : List (Str × Addr)) (fp : List Addr), PE (X.blk s H scope (compEnvC scope cl C X.env) fp) elt (TD (gd X al mu ex) W0 e)) (hsw : swapsWith (.ListComp elt [⟨tg, iter, ifs, 0⟩] scope pos) (some (.Name y py)) spos.line X.env = pure true) (hy : X.N[i]? = some y := by rfl) (hyl : X.env.scope.names.lookup y = some .local := by rfl) (hv : ∀ i ∈ is, i ∈ own.map (·.2) := by decide) (hc : X.calm = true := by rfl) (hs : ∀ x, foldedSetIterable iter X.env x = pure x := by intro _; rfl) :
    PS X (.Assign [.Name y py] (.ListComp elt [⟨tg, iter, ifs, 0⟩] scope pos) spos) (TSD (gd X al mu ex) W (sSetF i (eLc f b c e (own.map (·.2))))) := (ps_setLc hc hN hy hyl hsw hi (blkOk_by ok) hg ht he hs).wk fun Dn σ H ⟨B0, H0, B, ρ, S, q⟩ => by
  show tLc _ _ _ _ _ σ H fun v H' => gName i v σ H' Dn.nx
  exact lc_tr hv (setF_ok S q)
theorem ds_setLc (i : Nat) (hN : X.N.Nodup) (own : List (Str × Nat)) (hi : PI X tg iter (TID (gd X al mu ex) W f)) (ok : blkC X.N X.env.scope scope own = true)
    (hg : ∀ (s : Shared) (H : Hp) (C : Addr) (cl : List (Str × Addr)) (fp : List Addr), PG (X.blk s H scope (compEnvC scope cl C X.env) fp) tg (TGD (gd X al mu ex) b is)) (ht : ∀ (s : Shared) (H : Hp) (C : Addr) (cl : List (Str × Addr)) (fp : List Addr), PTs (X.blk s H scope (compEnvC scope cl C X.env) fp) ifs (TB (gd X al mu ex) W0 c))
    (he : ∀ (s : Shared) (H : Hp) (C : Addr) (cl : List (Str × Addr)) (fp : List Addr), PE (X.blk s H scope (compEnvC scope cl C X.env) fp) elt (TD (gd X al mu ex) W0 e)) (hsw : swapsWith (.ListComp elt [⟨tg, iter, ifs, 0⟩] scope pos) (some (.Name y py)) spos.line X.env = pure true) (hy : X.N[i]? = some y := by rfl) (hyl : X.env.scope.names.lookup y = some .local := by rfl) (hv : ∀ i ∈ is, i ∈ own.map (·.2) := by decide) (hc : X.calm = true := by rfl) (hs : ∀ x, foldedSetIterable iter X.env x = pure x := by intro _; rfl) :
    PS X (.Assign [.Name y py] (.ListComp elt [⟨tg, iter, ifs, 0⟩] scope pos) spos) (TSD (gd X al mu ex) W (sSet i (eLc f b c e (own.map (·.2))))) := (ps_setLc hc hN hy hyl hsw hi (blkOk_by ok) hg ht he hs).wk fun Dn σ H ⟨B0, H0, B, ρ, S, q⟩ => by
  show tLc _ _ _ _ _ σ H fun v H' => gName i v σ H' Dn.nx
  refine lc_tr (W := W) hv ?_
  unfold sSet at q
  refine tf_i S (fun er h => by rw [h] at q; exact q σ B H S) fun p H1 B1 d x h1 h2 h3 e => ?_
  rw [e] at q
  obtain ⟨B2, x2, r⟩ := freeze_rep x h1 h2 h3
  exact q _ B2 H1 ((S.mono x2).set_sh r i)
end
/-! ### fresh lists by + and * -/
def FI (G : Gd) (r : R2) (g : D → D → Option D) : Prop := ∀ B H d e x y z Q, Same B H → Rdb G B H d x → Rdb G B H e y → g d e = some z → (∀ p B' H', Ext B H B' H' → H p = none → B' p = none → OwAt G B' H' p z → Q (.ref p) H') → r x y H Q
theorem binF_tr {G : Gd} {W : WX} {r : R2} {g : D → D → Option D} {f1 f2 : Sto → M D} (hg : FI G r g) : ∀ σ H Q, TF G W (eBin g f1 f2) σ H Q → tOp r (TR G W f1) (TR G W f2) σ H Q := fun σ H Q ⟨B0, H0, B, ρ, S, q⟩ => by
  refine tr_i S (fun er he => ?_) fun x H1 B1 d x1 r1 e1 => tr_i (S.mono x1) (fun er he => ?_) fun y H2 B2 e x2 r2 e2 => ?_
  · have z : eBin g f1 f2 ρ = .error er := by unfold eBin; rw [he]; rfl
    rw [z] at q; exact q
  · have z : eBin g f1 f2 ρ = .error er := by unfold eBin; rw [e1, he]; rfl
    rw [z] at q; exact ErOk.mono q x1
  · have z : eBin g f1 f2 ρ = opt (g d e) := by unfold eBin; rw [e1, e2]; rfl
    rw [z] at q
    cases hz : g d e with
    | none => rw [hz] at q; exact q.elim
    | some w =>
      rw [hz] at q
      exact hg B2 H2 d e x y w Q x2.i' (r1.mono x2) r2 hz fun p B' H' x3 h1 h2 h3 => q p B' H' ((x1.trans x2).trans x3) ((x1.trans x2).fresh h1) h2 h3
def addL : D → D → Option D
  | .lst a, .lst b => if lim (a.length + b.length) then some (.lst (a ++ b)) else none
  | _, _ => none
def mulL : D → D → Option D
  | .lst a, .int k => if 0 ≤ k ∧ k ≤ 1000000 ∧ lim (a.length * k.toNat) then some (.lst (List.replicate k.toNat a).flatten) else none
  | _, _ => none
theorem fi_add {G : Gd} : FI G rCat addL := fun B H d e x y z Q s r1 r2 hz k => by
  unfold addL at hz
  split at hz
  · rename_i a b
    split at hz
    · rename_i hl
      cases hz
      obtain ⟨p, xs, rfl, h1, q1⟩ := rdb_lst s r1
      obtain ⟨p', ys, rfl, h2, q2⟩ := rdb_lst s r2
      exact ⟨p, p', xs, ys, rfl, rfl, h1, h2, by rw [reps_len q1, reps_len q2]; exact lim_of hl, fun w hw => k w B _ (Ext.own s hw) hw (none_of_same s hw) ⟨_, upd_same, reps_app q1 q2⟩⟩
    · cases hz
  · cases hz
theorem fi_mul {G : Gd} : FI G rRep mulL := fun B H d e x y z Q s r1 r2 hz k => by
  unfold mulL at hz
  split at hz
  · rename_i a b
    split at hz
    · rename_i c
      cases hz
      obtain ⟨p, xs, rfl, h1, q1⟩ := rdb_lst s r1
      exact ⟨p, b, xs, rfl, rdb_int r2, h1, by omega, by omega, by rw [reps_len q1]; exact lim_of c.2.2, fun w hw => k w B _ (Ext.own s hw) hw (none_of_same s hw) ⟨_, upd_same, reps_rep q1 _⟩⟩
    · cases hz
  · cases hz
section
variable {X : Cx} {W : WX} {a b c : Expr} {f1 f2 : Sto → M D} {pos : Pos}
theorem df_op {op : Operator} {r : R2} {g : D → D → Option D} (hg : FI (gd X al mu ex) r g) (ho : OpR X (binaryOp op) r) (ha : PE X a (TR (gd X al mu ex) W f1)) (hb : PE X b (TR (gd X al mu ex) W f2)) : PE X (.BinOp a op b pos) (TF (gd X al mu ex) W (eBin g f1 f2)) :=
  (pe_op ho ha hb).wk (binF_tr hg)
end
/-- a slice of a list is a new list -/
def sliceL : D → Option Int → Option Int → Option D
  | .lst ds, lo, hi => some (.lst (cut ds lo hi))
  | .fls ds, lo, hi => some (.lst (cut ds lo hi))
  | _, _, _ => none
def eSlL (f : Sto → M D) (lo hi : Sto → M (Option Int)) : Sto → M D := fun ρ => (f ρ).bind fun d => (lo ρ).bind fun l => (hi ρ).bind fun h => opt (sliceL d l h)
theorem df_sl {X : Cx} {W : WX} {e : Expr} {lo hi : Option Expr} {f : Sto → M D} {fl fh : Sto → M (Option Int)} {pos p2 : Pos} (he : PE X e (TR (gd X al mu ex) W f)) (hl : PO X lo (TOD (gd X al mu ex) W fl)) (hh : PO X hi (TOD (gd X al mu ex) W fh)) : PE X (.Subscript e (.Slice lo hi none p2) pos) (TF (gd X al mu ex) W (eSlL f fl fh)) := (pe_slice sl_list he hl hh).wk fun σ H Q ⟨B0, H0, B, ρ, S, q⟩ => by
  refine tr_i S (fun er h => ?_) fun x H1 B1 d x1 r1 e1 => to_i (S.mono x1) (fun er h => ?_) fun l H2 B2 x2 e2 => to_i ((S.mono x1).mono x2) (fun er h => ?_) fun u H3 B3 x3 e3 => ?_
  · have z : eSlL f fl fh ρ = .error er := by unfold eSlL; rw [h]; rfl
    rw [z] at q; exact q
  · have z : eSlL f fl fh ρ = .error er := by unfold eSlL; rw [e1, h]; rfl
    rw [z] at q; exact ErOk.mono q x1
  · have z : eSlL f fl fh ρ = .error er := by unfold eSlL; rw [e1, e2, h]; rfl
    rw [z] at q; exact ErOk.mono q (x1.trans x2)
  · have z : eSlL f fl fh ρ = opt (sliceL d l u) := by unfold eSlL; rw [e1, e2, e3]; rfl
    rw [z] at q
    have x13 := (x1.trans x2).trans x3
    have rr := (r1.mono x2).mono x3
    cases d with
    | lst ds =>
      obtain ⟨a, xs, rfl, h1, rs⟩ := rdb_lst x3.i' rr
      exact ⟨a, xs, rfl, .of h1, fun p hp => q p B3 _ (x13.trans (Ext.own x3.i' hp)) (x13.fresh hp) (none_of_same x3.i' hp) ⟨_, upd_same, reps_cut rs⟩⟩
    | fls ds =>
      obtain ⟨a, xs, rfl, h1, rs⟩ := rdb_fls x3.i' rr
      exact ⟨a, xs, rfl, h1, fun p hp => q p B3 _ (x13.trans (Ext.own x3.i' hp)) (x13.fresh hp) (none_of_same x3.i' hp) ⟨_, upd_same, reps_cut rs⟩⟩
    | _ => exact q.elim

/-! ### a def as a whole -/
def startS (n : Nat) (ds : List D) : Sto := ds.map (fun d => some (Sl.sh d)) ++ List.replicate (n - ds.length) none
def Res.out : Res → M D
  | .nx _ => .ok .non
  | .rt (.sh d) => .ok d
  | .rt (.ow d) => .ok d
  | .rt (.ex _ _) => .error .stuck
  | .er e _ => .error e
  | _ => .error .stuck
def runD (n np : Nat) (g : Sto → Res) : List D → M D := fun ds => if ds.length = np then (g (startS n ds)).out else .error .stuck
theorem start_ok {G : Gd} {N : List Str} {B H : Hp} {ds : List D} {vs : List V} (s : Same B H) (t : TbOk G B H) (r : Reps G B ds vs) : StOk G B H B H (start N vs) (startS N.length ds) := by
  have hl := reps_len r
  refine ⟨Ext.refl s, by unfold L2.start startS; simp [hl], fun i d h => ?_, fun i d h => ?_, fun i j d e p h => ?_, t, fun i c o h => ?_⟩
  · unfold startS at h
    by_cases hi : i < ds.length
    · rw [List.getElem?_append_left (by simpa using hi), List.getElem?_map] at h
      cases hd : ds[i]? with
      | none => rw [hd] at h; cases h
      | some d' =>
        rw [hd] at h
        cases h
        obtain ⟨v, hv, rv⟩ := reps_get r hd
        refine ⟨v, ?_, rv⟩
        unfold L2.start
        rw [List.getElem?_append_left (by simpa [hl] using hi), List.getElem?_map, hv]
        rfl
    · rw [List.getElem?_append_right (by simpa using Nat.le_of_not_lt hi), List.getElem?_replicate] at h
      split at h <;> cases h
  · exfalso
    unfold startS at h
    by_cases hi : i < ds.length
    · rw [List.getElem?_append_left (by simpa using hi), List.getElem?_map] at h
      cases hd : ds[i]? with
      | none => rw [hd] at h; cases h
      | some d' => rw [hd] at h; cases h
    · rw [List.getElem?_append_right (by simpa using Nat.le_of_not_lt hi), List.getElem?_replicate] at h
      split at h <;> cases h
  · exfalso
    unfold startS at h
    by_cases hi : i < ds.length
    · rw [List.getElem?_append_left (by simpa using hi), List.getElem?_map] at h
      cases hd : ds[i]? with
      | none => rw [hd] at h; cases h
      | some d' => rw [hd] at h; cases h
    · rw [List.getElem?_append_right (by simpa using Nat.le_of_not_lt hi), List.getElem?_replicate] at h
      split at h <;> cases h
  · exfalso
    unfold startS at h
    by_cases hi : i < ds.length
    · rw [List.getElem?_append_left (by simpa using hi), List.getElem?_map] at h
      cases hd : ds[i]? with
      | none => rw [hd] at h; cases h
      | some d' => rw [hd] at h; cases h
    · rw [List.getElem?_append_right (by simpa using Nat.le_of_not_lt hi), List.getElem?_replicate] at h
      split at h <;> cases h
section
variable {P : Program} {w : World} {K : PySem.W.Frag} {mg : Str → Option Value} {base : Heap}
theorem body_ok {N ps : List Str} {g : Tbl → Sto → Res} {vs : List V} {H : Hp} {Q : VK} {E : XK} (h : spD K mg ps.length (fun mu => runD N.length ps.length (g mu)) vs H Q E) : ∃ al mu ex, TSD ⟨K, mg, al, mu, ex⟩ (fun cls d _ H' => E cls d H') (g mu) { nx := fun _ H' => Q .non H', rt := Q } (start N vs) H := by
  obtain ⟨al, mu, ex, B, ds, hn, s, t, r, q⟩ := h
  refine ⟨al, mu, ex, ?_⟩
  refine ⟨B, H, B, startS N.length ds, start_ok s t r, ?_⟩
  unfold runD at q
  dsimp only at q
  rw [if_pos hn] at q
  cases hr : g mu (startS N.length ds) with
  | nx ρ => rw [hr] at q; exact fun σ B' H' S => q .non B' H' S.ext rep_non
  | rt sl =>
    rw [hr] at q
    cases sl with
    | sh d => exact fun v B' H' x r' => q v B' H' x r'
    | ow d =>
      intro p B' H' x h1 h2 h3
      obtain ⟨B2, x2, r2⟩ := freeze_rep x h1 h2 h3
      exact q _ B2 H' x2 r2
    | ex c o => exact q.elim
  | er e ρ =>
    rw [hr] at q
    intro σ B' H' S
    have q2 : ErOk ⟨K, mg, al, mu, ex⟩ (fun cls d _ H' => E cls d H') B H [] e := q
    have q3 := ErOk.mono q2 S.ext
    cases e with
    | stuck => exact q3
    | exc c a => exact q3
  | bk ρ => rw [hr] at q; exact q.elim
  | ct ρ => rw [hr] at q; exact q.elim
theorem fnr_ok {x qual : Str} {st : Stmt} {f : Addr} {fd : FuncData} {N ps : List Str} {k n : Nat} {m : Tbl → List D → M D} {g : Tbl → Sto → Res} (F : Fun K x qual st f fd) (gm : mg x = some (.ref f)) (b : Binds K fd ps []) (S : FnScope N ps (defScope st)) (hn : ps.length = n) (hm : m = fun mu => runD N.length n (g mu))
    (hb : ∀ (al : List Addr) (mu : Tbl) (ex : Option XV) (cdv : Value) (A : Around) (outer : List Env) (s : Shared) (H : Hp) (E : XK), Room k (A.deeper (envOfC qual (defScope st) s.heap.objs.size f cdv)) → PSs (cxOf (L2.CX P w) P w K mg base N qual (defScope st) f cdv A outer s H E) (defBody st) (TSD ⟨K, mg, al, mu, ex⟩ (fun cls d _ H' => E cls d H') (g mu))) : FnR P w K mg base (k + 1) x n m := by
  subst hn hm
  refine ⟨f, fd, ps, F.okX S (fun vs H Q E h => ?_) (fun cdv A outer s H vs Q E hr h => let ⟨al, mu, ex, h⟩ := body_ok h; ⟨_, hb al mu ex cdv A outer s H E hr, h⟩), gm, F.kp, b⟩
  obtain ⟨al, mu, ex, B, ds, hn, _, _, r, _⟩ := h
  rw [reps_len r, hn]
theorem FnR.mono {j k : Nat} {x : Str} {n : Nat} {m : Tbl → List D → M D} (F : FnR P w K mg base j x n m) (h : j ≤ k) : FnR P w K mg base k x n m :=
  let ⟨f, fd, ps, a, b⟩ := F.ex
  ⟨f, fd, ps, a.mono h, b⟩
end
end DL

namespace DL
open PySem PySem.Spec PyProof.Rows L2

/-! ### enumerate(zip(a, b)) -/
/-- the zip's own record; its first place tells whether the last pair is still held -/
def ZRec (h : Heap) (z TI TO : Addr) (f0 : Value) (b : Bool) : Prop := h.get? z = some { cls := .type "zip", dict := none, data := .fields #[f0, .bool b, .bool false, .ref TI, .ref TO], slots := #[] }
def Fr (f0 : Value) : Prop := f0 = .none ∨ ∃ T : Nat, f0 = rawInt T
/-- all of a zip over two lists -/
structure ZS (h : Heap) (z TI TO i1 i2 l1 l2 : Addr) (k : Nat) : Prop where
  rec_ : ∃ f0 b, Fr f0 ∧ ZRec h z TI TO f0 b
  tI : IsPair h TI (.ref i1) (.ref i2)
  tO : ∃ u v, IsPair h TO u v
  a1 : h.IsListIter i1 l1 k
  a2 : h.IsListIter i2 l2 k
section
variable {prog : Program} {w : World} {A : Around} {E : Value → Shared → Prop} {z TI TO i1 i2 l1 l2 : Addr} {k : Nat} {xs ys : Array Value} {x y : Value}
theorem alive_any {s : Shared} {a : Addr} {R : Option Obj → Shared → Prop} (h : R (s.heap.get? a) s) : wpAny (model prog w) A (loadIfAlive a) R E s := fun _ _ _ => h
theorem zs_free {hp : Heap} {g d tk os} {f0 : Value} {b : Bool} {R : Bool → Shared → Prop} (hz : hp.get? z = some { cls := .type "zip", dict := none, data := .fields #[f0, .bool b, .bool false, .ref TI, .ref TO], slots := #[] }) (hf : Fr f0) (r1 : R true ⟨hp, g, d, tk, os⟩)
    (r2 : ∀ hq, (∃ f b', Fr f ∧ ZRec hq z TI TO f b') → Heap.SameBut z hp hq → R false ⟨hq, g, d, tk, os⟩) : wpAny (model prog w) A (Builtin.SmallTypes.ownedTupleIsFree (.ref z)) R E ⟨hp, g, d, tk, os⟩ := by
  unfold Builtin.SmallTypes.ownedTupleIsFree
  rcases hf with rfl | ⟨T, rfl⟩
  · exact wpAny_bind (wpAny_field hz rfl (x := .none) rfl (wpAny_pure r1))
  · refine wpAny_bind (wpAny_field hz rfl (x := rawInt T) rfl ?_)
    show wpAny _ _ (loadIfAlive ((T : Int).toNat) >>= _) _ _ _
    refine wpAny_bind (m := loadIfAlive _) (alive_any ?_)
    split
    · exact wpAny_pure r1
    · refine wpAny_bind (wpAny_field hz rfl (x := .bool b) rfl ?_)
      dsimp only
      split
      · exact wpAny_bind (wpAny_setField_rec hz (by simp) fun hq zq sq => wpAny_pure (r2 hq ⟨rawInt T, true, .inr ⟨T, rfl⟩, zq⟩ sq))
      · exact wpAny_pure (r2 hp ⟨rawInt T, b, .inr ⟨T, rfl⟩, hz⟩ (Heap.SameBut.refl ..))
theorem zs_next {hp : Heap} {g d tk os} {Q : Value → Shared → Prop} (D : ZipApart z TI TO i1 i2 l1 l2) (Z : ZS hp z TI TO i1 i2 l1 l2 k) (hl1 : hp.IsList l1 xs) (hl2 : hp.IsList l2 ys) (hx : xs[k]? = some x) (hy : ys[k]? = some y)
    (hQ : ∀ h', ZS h' z TI TO i1 i2 l1 l2 (k + 1) → IsPair h' hp.objs.size x y → h'.objs.size = hp.objs.size + 1 → (∀ c o, c ≠ z → c ≠ TO → c ≠ i1 → c ≠ i2 → hp.get? c = some o → h'.get? c = some o) → Q (.ref hp.objs.size) ⟨h', g, d, tk, os⟩) :
    wpAny (model prog w) A (Builtin.SmallTypes.nextOf (.ref z)) Q E ⟨hp, g, d, tk, os⟩ := by
  obtain ⟨⟨f0, b, hf, hz⟩, hTI, ⟨u, v, hTO⟩, h1, h2⟩ := Z
  unfold ZRec at hz
  unfold Builtin.SmallTypes.nextOf
  refine wpAny_bind (wpAny_callSpecial?_slot (name := Str.ofString "__next__") ⟨_, hz, rfl⟩ F.slot_zip_next (wpAny_call_entry F.slot_zip_next ⟨_, hz, rfl⟩ F.entry_zip_next ?_ (F.args_zip_next_1 _)))
  show wpAny _ _ (field (.ref z) 2 >>= _) _ _ ⟨hp, g, d, tk, os⟩
  refine wpAny_bind (wpAny_field hz rfl (x := .bool false) rfl ?_)
  show wpAny _ _ (field (.ref z) 3 >>= _) _ _ ⟨hp, g, d, tk, os⟩
  refine wpAny_bind (wpAny_field hz rfl (x := .ref TI) rfl (wpAny_bind (wpAny_seqItems hTI rfl ?_)))
  show wpAny _ _ (Builtin.SmallTypes.ownedTupleIsFree (.ref z) >>= _) _ _ ⟨hp, g, d, tk, os⟩
  refine wpAny_bind ?_
  refine zs_free hz hf ?_ fun hq ⟨f', b', hf', zq⟩ sq => ?_
  · simp only [if_true]
    refine wpAny_bind (wpAny_rule (wpAny_bind (wpAny_field hz rfl (x := .ref TO) rfl (wpAny_bind (wpAny_setField_rec hz (by simp) fun g0 z0 s0 => ?_)))))
    replace z0 : ZRec g0 z TI TO .ellipsis b := z0
    replace s0 : Heap.SameBut z hp g0 := s0
    refine wpAny_bind ?_
    simp only [List.zipIdx_cons, List.zipIdx_nil, List.forIn_cons, List.forIn_nil]
    refine wpAny_bind (wpAny_bind (wpAny_onRaise ?_))
    show wpAny _ _ (Builtin.SmallTypes.nextOf (.ref i1) >>= _) _ _ ⟨g0, g, d, tk, os⟩
    refine wpAny_bind (wpAny_nextOf_list_item (s := ⟨g0, g, d, tk, os⟩) (h1.at fun o e => (s0.2 _ D.i1z).trans e) (hl1.at fun o e => (s0.2 _ D.l1z).trans e) hx fun p1 n1 b1 => wpAny_pure ?_)
    replace b1 : Heap.SameBut i1 g0 p1 := b1
    have t1 : IsPair p1 TO u v := (b1.2 _ D.TOi1).trans ((s0.2 _ D.TOz).trans hTO)
    refine wpAny_bind (wpAny_seqItems (s := ⟨p1, g, d, tk, os⟩) t1 rfl (wpAny_bind (wpAny_updateSeq_pair (s := ⟨p1, g, d, tk, os⟩) t1 fun g1 t2 b2 => ?_)))
    replace t2 : IsPair g1 TO x v := t2
    replace b2 : Heap.SameBut TO p1 g1 := b2
    refine wpAny_bind (wpAny_letGo (wpAny_pure (wpAny_bind (wpAny_bind (wpAny_onRaise ?_)))))
    show wpAny _ _ (Builtin.SmallTypes.nextOf (.ref i2) >>= _) _ _ ⟨g1, g, d, tk, os⟩
    have hk1 : ∀ c, c ≠ z → c ≠ TO → c ≠ i1 → g1.get? c = hp.get? c := fun c e1 e2 e3 => (b2.2 c e2).trans ((b1.2 c e3).trans (s0.2 c e1))
    refine wpAny_bind (wpAny_nextOf_list_item (s := ⟨g1, g, d, tk, os⟩) (h2.at fun o e => (hk1 _ D.i2z D.TOi2.symm D.i12.symm).trans e) (hl2.at fun o e => (hk1 _ D.l2z D.l2TO D.l2i1).trans e) hy fun p2 n2 b3 => wpAny_pure ?_)
    replace b3 : Heap.SameBut i2 g1 p2 := b3
    have t3 : IsPair p2 TO x v := (b3.2 _ D.TOi2).trans t2
    refine wpAny_bind (wpAny_seqItems (s := ⟨p2, g, d, tk, os⟩) t3 rfl (wpAny_bind (wpAny_updateSeq_pair (s := ⟨p2, g, d, tk, os⟩) t3 fun g2 t4 b4 => ?_)))
    replace t4 : IsPair g2 TO x y := t4
    replace b4 : Heap.SameBut TO p2 g2 := b4
    refine wpAny_bind (wpAny_letGo (wpAny_pure (wpAny_pure ?_)))
    refine wpAny_bind (wpAny_seqItems (s := ⟨g2, g, d, tk, os⟩) t4 rfl (wpAny_bind (wpAny_newTuple ?_)))
    have hsz : g2.objs.size = hp.objs.size := by rw [b4.1, b3.1, b2.1, b1.1, s0.1]
    have hk2 : ∀ c, c ≠ TO → c ≠ i2 → g2.get? c = g1.get? c := fun c e1 e2 => (b4.2 c e1).trans (b3.2 c e2)
    have z2 : ZRec g2 z TI TO .ellipsis b := (hk2 _ D.TOz.symm D.i2z.symm).trans ((b2.2 _ D.TOz.symm).trans ((b1.2 _ D.i1z.symm).trans z0))
    show wpAny _ _ (Builtin.SmallTypes.ownedTupleHandOut (.ref z) (.ref g2.objs.size) >>= _) _ _ ⟨g2.push { cls := .type "tuple", data := .seq #[x, y] }, g, d, tk, os⟩
    unfold Builtin.SmallTypes.ownedTupleHandOut
    have z3 : ZRec (g2.push { cls := .type "tuple", data := .seq #[x, y] }) z TI TO .ellipsis b := Heap.get?_push_of_some _ z2
    refine wpAny_bind (wpAny_bind (wpAny_setField_rec (s := ⟨g2.push { cls := .type "tuple", data := .seq #[x, y] }, g, d, tk, os⟩) z3 (by simp) fun g3 z4 b5 => ?_))
    replace z4 : ZRec g3 z TI TO (rawInt g2.objs.size) b := z4
    replace b5 : Heap.SameBut z (g2.push { cls := .type "tuple", data := .seq #[x, y] }) g3 := b5
    refine wpAny_setField_rec (s := ⟨g3, g, d, tk, os⟩) z4 (by simp) fun g4 z5 b6 => ?_
    replace z5 : ZRec g4 z TI TO (rawInt g2.objs.size) false := z5
    replace b6 : Heap.SameBut z g3 g4 := b6
    refine wpAny_pure ⟨_, rfl, wpAny_pure ?_⟩
    have up : ∀ c o, c ≠ z → g2.get? c = some o → g4.get? c = some o := fun c o e1 e2 => (b6.2 c e1).trans ((b5.2 c e1).trans (Heap.get?_push_of_some _ e2))
    have zl : z < g2.objs.size := Heap.lt_size z2
    have t5 : IsPair g4 g2.objs.size x y := (b6.2 _ (Nat.ne_of_gt zl)).trans ((b5.2 _ (Nat.ne_of_gt zl)).trans (Heap.get?_push_size _ rfl))
    have s4 : g4.objs.size = g2.objs.size + 1 := by rw [b6.1, b5.1, Heap.size_push]
    show Q (.ref g2.objs.size) ⟨g4, g, d, tk, os⟩
    rw [hsz] at t5 s4 ⊢
    refine hQ g4 ⟨⟨_, _, .inr ⟨_, rfl⟩, z5⟩, up _ _ D.TIz ((hk2 _ D.TITO D.TIi2).trans ((hk1 _ D.TIz D.TITO D.TIi1).trans hTI)), ⟨x, y, up _ _ D.TOz t4⟩, n1.at fun o e => up _ _ D.i1z ((hk2 _ D.TOi1.symm D.i12).trans ((b2.2 _ D.TOi1.symm).trans e)), n2.at fun o e => up _ _ D.i2z ((b4.2 _ D.TOi2.symm).trans e)⟩ t5 s4 fun c o c1 c2 c3 c4 e => up c o c1 ((hk2 c c2 c4).trans ((hk1 c c1 c2 c3).trans e))
  · simp only [Bool.false_eq_true, if_false]
    refine wpAny_bind ?_
    simp only [List.forIn_cons, List.forIn_nil, List.forIn_toArray]
    refine wpAny_bind (wpAny_bind (wpAny_holding ?_))
    show wpAny _ _ (Builtin.SmallTypes.nextOf (.ref i1) >>= _) _ _ ⟨hq, g, d, tk, os⟩
    refine wpAny_bind (wpAny_nextOf_list_item (s := ⟨hq, g, d, tk, os⟩) (h1.at fun o e => (sq.2 _ D.i1z).trans e) (hl1.at fun o e => (sq.2 _ D.l1z).trans e) hx fun p1 n1 b1 => wpAny_pure (wpAny_pure (wpAny_bind (wpAny_bind (wpAny_holding ?_)))))
    replace b1 : Heap.SameBut i1 hq p1 := b1
    show wpAny _ _ (Builtin.SmallTypes.nextOf (.ref i2) >>= _) _ _ ⟨p1, g, d, tk, os⟩
    have hk1 : ∀ c, c ≠ z → c ≠ i1 → p1.get? c = hp.get? c := fun c e1 e3 => (b1.2 c e3).trans (sq.2 c e1)
    refine wpAny_bind (wpAny_nextOf_list_item (s := ⟨p1, g, d, tk, os⟩) (h2.at fun o e => (hk1 _ D.i2z D.i12.symm).trans e) (hl2.at fun o e => (hk1 _ D.l2z D.l2i1).trans e) hy fun p2 n2 b3 => wpAny_pure (wpAny_pure (wpAny_pure ?_)))
    replace b3 : Heap.SameBut i2 p1 p2 := b3
    refine wpAny_bind (wpAny_newTuple (hsz := by show 2 ≤ sizeLine; decide) (wpAny_pure ⟨_, rfl, wpAny_pure ?_⟩))
    have hk2 : ∀ c o, c ≠ i2 → p1.get? c = some o → (p2.push { cls := .type "tuple", data := .seq #[x, y] }).get? c = some o := fun c o e1 e => Heap.get?_push_of_some _ ((b3.2 c e1).trans e)
    have hsz : p2.objs.size = hp.objs.size := by rw [b3.1, b1.1, sq.1]
    show Q (.ref p2.objs.size) ⟨p2.push { cls := .type "tuple", data := .seq #[x, y] }, g, d, tk, os⟩
    have t5 : IsPair (p2.push { cls := .type "tuple", data := .seq #[x, y] }) p2.objs.size x y := Heap.get?_push_size _ rfl
    have s4 : (p2.push { cls := .type "tuple", data := .seq #[x, y] }).objs.size = p2.objs.size + 1 := Heap.size_push ..
    rw [hsz] at t5 s4 ⊢
    exact hQ _ ⟨⟨f', b', hf', hk2 _ _ D.i2z.symm ((b1.2 _ D.i1z.symm).trans zq)⟩, hk2 _ _ D.TIi2 ((hk1 _ D.TIz D.TIi1).trans hTI), ⟨u, v, hk2 _ _ D.TOi2 ((hk1 _ D.TOz D.TOi1).trans hTO)⟩, n1.at fun o e => hk2 _ _ D.i12 e, n2.at fun o e => Heap.get?_push_of_some _ e⟩ t5 s4 fun c o c1 c2 c3 c4 e => hk2 c o c4 ((hk1 c c1 c3).trans e)
theorem zs_end {hp : Heap} {g d tk os} {Q : Value → Shared → Prop} (hh : A.handled = none) (D : ZipApart z TI TO i1 i2 l1 l2) (Z : ZS hp z TI TO i1 i2 l1 l2 k) (hl1 : hp.IsList l1 xs) (hx : xs[k]? = none)
    (hE : ∀ h' e, (∀ c o, c ≠ z → c ≠ TO → c ≠ i1 → c ≠ i2 → hp.get? c = some o → h'.get? c = some o) → (∃ o, h'.get? e = some o ∧ o.cls = .type "StopIteration") → E (.ref e) ⟨h', g, d, tk, os⟩) :
    wpAny (model prog w) A (Builtin.SmallTypes.nextOf (.ref z)) Q E ⟨hp, g, d, tk, os⟩ := by
  obtain ⟨⟨f0, b, hf, hz⟩, hTI, ⟨u, v, hTO⟩, h1, h2⟩ := Z
  unfold ZRec at hz
  unfold Builtin.SmallTypes.nextOf
  refine wpAny_bind (wpAny_callSpecial?_slot (name := Str.ofString "__next__") ⟨_, hz, rfl⟩ F.slot_zip_next (wpAny_call_entry F.slot_zip_next ⟨_, hz, rfl⟩ F.entry_zip_next ?_ (F.args_zip_next_1 _)))
  show wpAny _ _ (field (.ref z) 2 >>= _) _ _ ⟨hp, g, d, tk, os⟩
  refine wpAny_bind (wpAny_field hz rfl (x := .bool false) rfl ?_)
  show wpAny _ _ (field (.ref z) 3 >>= _) _ _ ⟨hp, g, d, tk, os⟩
  refine wpAny_bind (wpAny_field hz rfl (x := .ref TI) rfl (wpAny_bind (wpAny_seqItems hTI rfl ?_)))
  show wpAny _ _ (Builtin.SmallTypes.ownedTupleIsFree (.ref z) >>= _) _ _ ⟨hp, g, d, tk, os⟩
  refine wpAny_bind ?_
  refine zs_free hz hf ?_ fun hq ⟨f', b', hf', zq⟩ sq => ?_
  · simp only [if_true]
    refine wpAny_bind (wpAny_rule (wpAny_bind (wpAny_field hz rfl (x := .ref TO) rfl (wpAny_bind (wpAny_setField_rec hz (by simp) fun g0 z0 s0 => ?_)))))
    replace z0 : ZRec g0 z TI TO .ellipsis b := z0
    replace s0 : Heap.SameBut z hp g0 := s0
    refine wpAny_bind ?_
    simp only [List.zipIdx_cons, List.zipIdx_nil, List.forIn_cons, List.forIn_nil]
    refine wpAny_bind (wpAny_bind (wpAny_onRaise ?_))
    show wpAny _ _ (Builtin.SmallTypes.nextOf (.ref i1) >>= _) _ _ ⟨g0, g, d, tk, os⟩
    refine wpAny_bind (wpAny_nextOf_list_end hh (s := ⟨g0, g, d, tk, os⟩) (h1.at fun o e => (s0.2 _ D.i1z).trans e) (hl1.at fun o e => (s0.2 _ D.l1z).trans e) hx fun q e hq he => ?_)
    obtain ⟨oe, hoe, hce⟩ := he
    replace hoe : q.get? e = some oe := hoe
    have zq : ZRec q z TI TO .ellipsis b := hq _ _ D.i1z.symm z0
    have hez : e ≠ z := fun x => by subst x; unfold ZRec at zq; rw [zq] at hoe; cases hoe; simp at hce
    refine wpAny_setField_rec (s := ⟨q, g, d, tk, os⟩) zq (by simp) fun q' _ hq' => ?_
    replace hq' : Heap.SameBut z q q' := hq'
    exact hE q' e (fun c o c1 c2 c3 c4 x => (hq'.2 c c1).trans (hq _ _ c3 ((s0.2 c c1).trans x))) ⟨oe, (hq'.2 e hez).trans hoe, hce⟩
  · simp only [Bool.false_eq_true, if_false]
    refine wpAny_bind ?_
    simp only [List.forIn_cons, List.forIn_nil, List.forIn_toArray]
    refine wpAny_bind (wpAny_bind (wpAny_holding ?_))
    show wpAny _ _ (Builtin.SmallTypes.nextOf (.ref i1) >>= _) _ _ ⟨hq, g, d, tk, os⟩
    refine wpAny_bind (wpAny_nextOf_list_end hh (s := ⟨hq, g, d, tk, os⟩) (h1.at fun o e => (sq.2 _ D.i1z).trans e) (hl1.at fun o e => (sq.2 _ D.l1z).trans e) hx fun q e hq2 he => ?_)
    exact hE q e (fun c o c1 c2 c3 c4 x => hq2 _ _ c3 ((sq.2 c c1).trans x)) he
end
/-! .. one enumerate further -/
section
variable {prog : Program} {w : World} {A : Around} {E : Value → Shared → Prop} {hp : Heap} {g : Array GenState} {d : Drawn} {tk : Nat} {os : OsState} {e it : Addr} {c : Int} {old : Value}
theorem en_next {Po : Value → Heap → Prop} {Q : Option Value → Shared → Prop} (he : IsEnum hp e it c old)
    (hn : ∀ {A' : Around} {E' : Value → Shared → Prop} (R : Value → Shared → Prop), A'.handled = A.handled → (∀ x h', Po x h' → R x ⟨h', g, d, tk, os⟩) → wpAny (model prog w) A' (Builtin.SmallTypes.nextOf (.ref it)) R E' ⟨hp, g, d, tk, os⟩) (hk : ∀ x h', Po x h' → IsEnum h' e it c old)
    (hQ : ∀ x h1 h', Po x h1 → IsEnumOut h' e it (c + 1) x h1.objs.size → IsPair h' h1.objs.size (.int c tk) x → h'.objs.size = h1.objs.size + 1 → (∀ b o, b ≠ e → h1.get? b = some o → h'.get? b = some o) → Q (some (.ref h1.objs.size)) ⟨h', g, d, tk + 1, os⟩) :
    wpAny (model prog w) A (pyNext (.ref e)) Q E ⟨hp, g, d, tk, os⟩ := by
  have hT : (⟨hp, g, d, tk, os⟩ : Shared).TypeIs (.ref e) "enumerate" := ⟨_, he, rfl⟩
  unfold pyNext
  refine wpAny_bind (wpAny_attempt (wpAny_callSpecial?_slot (name := Str.ofString "__next__") hT F.slot_enumerate_next (wpAny_call_entry F.slot_enumerate_next hT F.entry_enumerate_next ?_ (F.args_enumerate_next_1 _))))
  show wpAny _ _ (field (.ref e) 2 >>= _) _ _ _
  refine wpAny_bind (wpAny_field he rfl (x := .ref it) rfl (wpAny_bind (hn _ rfl fun x h1 po => ?_)))
  have e1 := hk x h1 po
  show wpAny _ _ (field (.ref e) 3 >>= _) _ _ ⟨h1, g, d, tk, os⟩
  refine wpAny_bind (wpAny_field e1 rfl (x := rawInt c) rfl ?_)
  show wpAny _ _ (field (.ref e) 4 >>= _) _ _ ⟨h1, g, d, tk, os⟩
  refine wpAny_bind (wpAny_field e1 rfl (x := .none) rfl ?_)
  show wpAny _ _ (mkInt c >>= _) _ _ ⟨h1, g, d, tk, os⟩
  refine wpAny_bind (wpAny_mkInt ?_)
  show wpAny _ _ (setField (.ref e) 3 (rawInt (c + 1)) >>= _) _ _ ⟨h1, g, d, tk + 1, os⟩
  refine wpAny_bind (wpAny_setField_rec e1 (by simp) fun h2 e2 s2 => ?_)
  replace s2 : Heap.SameBut e h1 h2 := s2
  replace e2 : IsEnum h2 e it (c + 1) old := e2
  show wpAny _ _ (setField (.ref e) 4 .none >>= _) _ _ ⟨h2, g, d, tk + 1, os⟩
  refine wpAny_bind (wpAny_setField_rec e2 (by simp) fun h3 e3 s3 => ?_)
  replace s3 : Heap.SameBut e h2 h3 := s3
  replace e3 : IsEnum h3 e it (c + 1) old := e3
  show wpAny _ _ (newTuple [.int c tk, x] >>= _) _ _ ⟨h3, g, d, tk + 1, os⟩
  refine wpAny_bind (wpAny_newTuple ?_)
  have e4 : IsEnum (h3.push { cls := .type "tuple", data := .seq #[.int c tk, x] }) e it (c + 1) old := Heap.get?_push_of_some _ e3
  have t4 : IsPair (h3.push { cls := .type "tuple", data := .seq #[.int c tk, x] }) h3.objs.size (.int c tk) x := Heap.get?_push_size _ rfl
  have z4 : (h3.push { cls := .type "tuple", data := .seq #[.int c tk, x] }).objs.size = h3.objs.size + 1 := Heap.size_push ..
  have k4 : ∀ b o, b ≠ e → h1.get? b = some o → (h3.push { cls := .type "tuple", data := .seq #[.int c tk, x] }).get? b = some o := fun b o n y => Heap.get?_push_of_some _ ((s3.2 b n).trans ((s2.2 b n).trans y))
  have hs : h3.objs.size = h1.objs.size := by rw [s3.1, s2.1]
  have hel : e < h3.objs.size := Heap.lt_size e3
  show wpAny _ _ (Builtin.SmallTypes.ownedTupleIsFree (.ref e) >>= _) _ _ ⟨h3.push { cls := .type "tuple", data := .seq #[.int c tk, x] }, g, d, tk + 1, os⟩
  generalize h3.push { cls := .type "tuple", data := .seq #[.int c tk, x] } = h4 at e4 t4 z4 k4
  unfold Builtin.SmallTypes.ownedTupleIsFree
  refine wpAny_bind (wpAny_bind (wpAny_field e4 rfl (x := .none) rfl (wpAny_pure ?_)))
  simp only [if_true]
  refine wpAny_bind (wpAny_rule (wpAny_bind (wpAny_field e4 rfl (x := old) rfl (wpAny_bind (wpAny_setField_rec e4 (by simp) fun h5 e5 s5 => ?_)))))
  replace s5 : Heap.SameBut e h4 h5 := s5
  replace e5 : IsEnum h5 e it (c + 1) x := e5
  show wpAny _ _ (Builtin.SmallTypes.ownedTupleHandOut (.ref e) (.ref h3.objs.size) >>= _) _ _ ⟨h5, g, d, tk + 1, os⟩
  unfold Builtin.SmallTypes.ownedTupleHandOut
  refine wpAny_bind (wpAny_bind (wpAny_setField_rec e5 (by simp) fun h6 e6 s6 => ?_))
  replace s6 : Heap.SameBut e h5 h6 := s6
  replace e6 : IsEnumOut h6 e it (c + 1) x h3.objs.size := e6
  refine wpAny_setField_rec e6 (by simp) fun h7 e7 s7 => ?_
  replace s7 : Heap.SameBut e h6 h7 := s7
  replace e7 : IsEnumOut h7 e it (c + 1) x h3.objs.size := e7
  refine wpAny_bind (wpAny_letGo (wpAny_pure ⟨_, rfl, wpAny_pure ?_⟩))
  have up : ∀ b o, b ≠ e → h4.get? b = some o → h7.get? b = some o := fun b o n y => (s7.2 b n).trans ((s6.2 b n).trans ((s5.2 b n).trans y))
  have t7 : IsPair h7 h3.objs.size (.int c tk) x := up _ _ (Nat.ne_of_gt hel) t4
  have z7 : h7.objs.size = h3.objs.size + 1 := by rw [s7.1, s6.1, s5.1, z4]
  show Q (some (.ref h3.objs.size)) ⟨h7, g, d, tk + 1, os⟩
  rw [hs] at e7 t7 z7 ⊢
  exact hQ x h1 h7 po e7 t7 z7 fun b o n y => up b o n (k4 b o n y)
theorem en_end {Po : Heap → Prop} {Q : Option Value → Shared → Prop} (he : IsEnum hp e it c old)
    (hn : ∀ {A' : Around} {E' : Value → Shared → Prop} (R : Value → Shared → Prop), A'.handled = A.handled → (∀ h' x, Po h' → (∃ o, h'.get? x = some o ∧ o.cls = .type "StopIteration") → E' (.ref x) ⟨h', g, d, tk, os⟩) → wpAny (model prog w) A' (Builtin.SmallTypes.nextOf (.ref it)) R E' ⟨hp, g, d, tk, os⟩)
    (hQ : ∀ h', Po h' → Q none ⟨h', g, d, tk, os⟩) : wpAny (model prog w) A (pyNext (.ref e)) Q E ⟨hp, g, d, tk, os⟩ := by
  have hT : (⟨hp, g, d, tk, os⟩ : Shared).TypeIs (.ref e) "enumerate" := ⟨_, he, rfl⟩
  unfold pyNext
  refine wpAny_bind (wpAny_attempt (wpAny_callSpecial?_slot (name := Str.ofString "__next__") hT F.slot_enumerate_next (wpAny_call_entry F.slot_enumerate_next hT F.entry_enumerate_next ?_ (F.args_enumerate_next_1 _))))
  show wpAny _ _ (field (.ref e) 2 >>= _) _ _ _
  refine wpAny_bind (wpAny_field he rfl (x := .ref it) rfl (wpAny_bind (hn _ rfl fun h' x po ⟨o, ho, hc⟩ => ?_)))
  exact wpAny_bind (wpAny_isInstance (T := "StopIteration") (b := true) ⟨o, ho, hc⟩ isSubtype_stop (wpAny_pure (hQ _ po)))
end
end DL

namespace DL
open PySem PySem.Spec PyProof.Rows L2

theorem meets_enum_self (z TI TO : Addr) (f0 : Value) : Meets (Builtin.«enumerate.__new__» ⟨[.type "enumerate", .ref z], []⟩) (fun _ R s => IsZip s.heap z TI TO f0 ∧
    R (.ok (.ret (.ref s.heap.objs.size))) { s with heap := s.heap.push { cls := .type "enumerate", data := .fields #[.none, .bool false, .ref z, rawInt 0, .none, .none] } }) :=
  .of_wp fun prog w A R s h => by
    obtain ⟨hp, g, d, tk, os⟩ := s
    obtain ⟨hz, h⟩ := h
    have hsub := sub_enumerate
    have q1 : ∀ {A' : Around} {E : Value → Shared → Prop} {Q : Value → Shared → Prop}, Q (.ref z) ⟨hp, g, d, tk, os⟩ → wpAny (model prog w) A' (pyIter (.ref z)) Q E ⟨hp, g, d, tk, os⟩ := fun q => wpAny_pyIter_zip hz q
    wp_walk using q1
    refine wpAny_stack_any fun st => wpAny_pure ?_
    split
    · rename_i c _ _ _ _ _
      cases (c == Value.type "enumerate")
      · wp_walk using q1
        exact ⟨_, rfl, h⟩
      · wp_walk using q1
        exact ⟨_, rfl, h⟩
    · wp_walk using q1
      exact ⟨_, rfl, h⟩
theorem call_enum_self {prog : Program} {w : World} {A : Around} {E : Value → Shared → Prop} {s : Shared} {z TI TO : Addr} {f0 : Value} {Q : Value → Shared → Prop} (hz : IsZip s.heap z TI TO f0)
    (h : ∀ h', IsEnum h' s.heap.objs.size z 0 .none → (∀ b o, s.heap.get? b = some o → h'.get? b = some o) → Q (.ref s.heap.objs.size) { s with heap := h' }) : wpAny (model prog w) A (call (.type "enumerate") [.ref z]) Q E s := by
  refine callType_new F.called_enumerate (by decide) (F.typeCall_enumerate_1 _) (F.newCall_enumerate_1 _) (fun obj => F.args_object_init_2 obj _) F.entry_enumerate_new (meets_enum_self z TI TO f0) ⟨hz, ?_⟩
  have he : IsEnum (s.heap.push { cls := .type "enumerate", data := .fields #[.none, .bool false, .ref z, rawInt 0, .none, .none] }) s.heap.objs.size z 0 .none := Heap.get?_push_size _ rfl
  exact ⟨⟨_, he, rfl⟩, h _ he fun b o x => Heap.get?_push_of_some _ x⟩

/-- the lists at a and b, of one length, item by item, each with its number ahead -/
def Itez (K : PySem.W.Frag) (a b : Addr) : It :=
  ⟨fun i H => ∃ (xs ys : List V) (x y : V), SqL K H a xs ∧ SqL K H b ys ∧ xs[i]? = some x ∧ ys[i]? = some y,
    fun i H v H' => ∃ T T2 x y, v = .ref T2 ∧ H T = none ∧ T2 ≠ T ∧ H T2 = none ∧ H' = upd (upd H T (.tup [x, y])) T2 (.tup [.int (i : Nat), .ref T]) ∧ (∀ xs, SqL K H a xs → xs[i]? = some x) ∧ ∀ ys, SqL K H b ys → ys[i]? = some y,
    fun i H => ∃ xs : List V, SqL K H a xs ∧ xs.length ≤ i ∧ ∃ ys : List V, SqL K H b ys⟩
theorem zs_keep {h h' : Heap} {z TI TO i1 i2 l1 l2 : Addr} {k : Nat} (Z : ZS h z TI TO i1 i2 l1 l2 k) (kp : ∀ b ∈ [z, TI, TO, i1, i2], ∀ o, h.get? b = some o → h'.get? b = some o) : ZS h' z TI TO i1 i2 l1 l2 k := by
  obtain ⟨⟨f0, b, hf, hz⟩, hTI, ⟨u, v, hTO⟩, h1, h2⟩ := Z
  exact ⟨⟨f0, b, hf, kp z (by simp) _ hz⟩, kp TI (by simp) _ hTI, ⟨u, v, kp TO (by simp) _ hTO⟩, h1.at fun o e => kp i1 (by simp) o e, h2.at fun o e => kp i2 (by simp) o e⟩
theorem zs_lt {h : Heap} {z TI TO i1 i2 l1 l2 : Addr} {k : Nat} (Z : ZS h z TI TO i1 i2 l1 l2 k) : ∀ c ∈ [z, TI, TO, i1, i2], ∃ o, h.get? c = some o ∧ ∀ v, o.data ≠ .cell v := fun c hc => by
  obtain ⟨⟨f0, b, hf, hz⟩, hTI, ⟨u, v, hTO⟩, ⟨o1, e1, _, d1⟩, ⟨o2, e2, _, d2⟩⟩ := Z
  simp only [List.mem_cons, List.not_mem_nil, or_false] at hc
  rcases hc with q | q | q | q | q <;> subst q
  · exact ⟨_, hz, fun v q => nomatch q⟩
  · exact ⟨_, hTI, fun v q => nomatch q⟩
  · exact ⟨_, hTO, fun v q => nomatch q⟩
  · exact ⟨o1, e1, fun v q => by rw [d1] at q; cases q⟩
  · exact ⟨o2, e2, fun v q => by rw [d2] at q; cases q⟩
theorem turn_ez {P : Program} {w : World} {K : PySem.W.Frag} {elts : List Expr} {kk : Nat} {tpos : Pos} {a b z TI TO i1 i2 e : Addr} (D : ZipApart z TI TO i1 i2 a b) (he5 : e ∉ [z, TI, TO, i1, i2]) :
    Turn P w K (.Tuple elts kk tpos) (Itez K a b) (e :: [z, TI, TO, i1, i2]) e (fun i h => (∃ old, IsEnum h e z ((i : Nat) : Int) old) ∧ ZS h z TI TO i1 i2 a b i) where
  mem := List.mem_cons_self ..
  obj := fun i h st c hc => by
    obtain ⟨⟨old, he⟩, Z⟩ := st
    rcases List.mem_cons.mp hc with q | q
    · subst q; exact ⟨_, he, fun v q => nomatch q⟩
    · exact zs_lt Z c q
  keep := fun i h h' st k => by
    obtain ⟨⟨old, he⟩, Z⟩ := st
    exact ⟨⟨old, k e (List.mem_cons_self ..) _ he⟩, zs_keep Z fun b hb o q => k b (List.mem_cons_of_mem _ hb) o q⟩
  item := by
    intro X hP hw hK hc i pins s σ H E I hf st hg
    subst hP hw hK
    obtain ⟨⟨old, he⟩, Z⟩ := st
    obtain ⟨xs, ys, x, y, hqx, hqy, hx, hy⟩ := hg
    obtain ⟨its, rv, p, _⟩ := I.list hqx
    obtain ⟨its2, rv2, p2, _⟩ := I.list hqy
    obtain ⟨u, hu, ru⟩ := rv.get hx
    obtain ⟨u2, hu2, ru2⟩ := rv2.get hy
    obtain ⟨hp, g, d, tk, os⟩ := s
    have hf5 : ∀ c ∈ [z, TI, TO, i1, i2], FpOk X pins H c := fun c hc => hf c (List.mem_cons_of_mem _ hc)
    have hne : ∀ c ∈ [z, TI, TO, i1, i2], c ≠ e := fun c hc q => he5 (q ▸ hc)
    refine en_next (Po := fun v h1 => v = .ref hp.objs.size ∧ ZS h1 z TI TO i1 i2 a b (i + 1) ∧ IsPair h1 hp.objs.size u u2 ∧ h1.objs.size = hp.objs.size + 1 ∧ ∀ c o, c ≠ z → c ≠ TO → c ≠ i1 → c ≠ i2 → hp.get? c = some o → h1.get? c = some o) he (fun R _ k => ?_) (fun v h1 po => ?_) fun v h1 h' po eo tp sz k2 => ?_
    · exact zs_next D Z p.isList p2.isList (x := u) (y := u2) (by simpa using hu) (by simpa using hu2) fun h1 z1 t1 s1 k1 => k _ h1 ⟨rfl, z1, t1, s1, k1⟩
    · obtain ⟨_, _, _, _, k1⟩ := po
      exact k1 e _ (fun q => hne z (by simp) q.symm) (fun q => hne TO (by simp) q.symm) (fun q => hne i1 (by simp) q.symm) (fun q => hne i2 (by simp) q.symm) he
    · obtain ⟨rfl, z1, t1, s1, k1⟩ := po
      have new1 : ObjOk X.prog X.w (upd H hp.objs.size (.tup [x, y])) h1 hp.objs.size (.tup [x, y]) :=
        ⟨by show 2 ≤ sizeLine; decide, [u, u2], .cons ru (.cons ru2 .nil), ⟨_, t1, rfl, _, rfl⟩⟩
      have I1 : Inv X pins σ (upd H hp.objs.size (.tup [x, y])) ⟨h1, g, d, tk, os⟩ := I.turnedNew (t' := tk) (ch := [z, TI, TO, i1, i2])
        (fun c o hb q => k1 c o (fun q' => hb (by simp [q'])) (fun q' => hb (by simp [q'])) (fun q' => hb (by simp [q'])) (fun q' => hb (by simp [q'])) q) hf5 (Nat.le_refl _) new1
      have lt5 : ∀ c ∈ e :: [z, TI, TO, i1, i2], c < hp.objs.size := fun c hc => by
        rcases List.mem_cons.mp hc with q | q
        · subst q; exact Heap.lt_size he
        · obtain ⟨o, ho, _⟩ := zs_lt Z c q
          exact Heap.lt_size ho
      have n0 : H hp.objs.size = none := I.hok.fresh (Nat.le_refl _)
      have nT : H h1.objs.size = none := I.hok.fresh (by show hp.objs.size ≤ h1.objs.size; omega)
      have hfe : FpOk X pins (upd H hp.objs.size (.tup [x, y])) e := ⟨by rw [upd_ne (Nat.ne_of_lt (lt5 e (by simp)))]; exact (hf e (by simp)).1, (hf e (by simp)).2⟩
      refine ⟨_, rfl, wpAny_letOwnedTupleGo_enum (s := ⟨h', g, d, tk + 1, os⟩) eo fun h2 e2 sb => ?_⟩
      replace sb : Heap.SameBut e h' h2 := sb
      have le1 : hp.objs.size ≤ h1.objs.size := by omega
      have ne1 : hp.objs.size < h1.objs.size := by omega
      have lt1 : e < h1.objs.size := Nat.lt_of_lt_of_le (lt5 e (by simp)) le1
      have tp2 : IsPair h2 h1.objs.size (.int ((i : Nat) : Int) tk) (.ref hp.objs.size) := (sb.2 _ (Nat.ne_of_gt lt1)).trans tp
      have new2 : ObjOk X.prog X.w (upd (upd H hp.objs.size (.tup [x, y])) h1.objs.size (.tup [.int (i : Nat), .ref hp.objs.size])) h2 h1.objs.size (.tup [.int (i : Nat), .ref hp.objs.size]) :=
        ⟨by show 2 ≤ sizeLine; decide, [.int ((i : Nat) : Int) tk, .ref hp.objs.size], .cons ⟨_, rfl⟩ (.cons rfl .nil), ⟨_, tp2, rfl, _, rfl⟩⟩
      have I2 := I1.turnedNew (t' := tk + 1) (ch := [e]) (h' := h2) (fun c o hb q => (sb.2 c (fun z => hb (by simp [z]))).trans (k2 c o (fun z => hb (by simp [z])) q)) (fun c hc => by
        rw [List.mem_singleton.mp hc]; exact hfe) (Nat.le_refl _) new2
      refine ⟨.ref h1.objs.size, _, I2, rfl, ⟨hp.objs.size, h1.objs.size, x, y, rfl, n0, Nat.ne_of_gt ne1, nT, rfl, fun l hl => by rw [I.list_inj hl hqx]; exact hx, fun l hl => by rw [I.list_inj hl hqy]; exact hy⟩, ⟨⟨.ref hp.objs.size, ?_⟩, zs_keep z1 fun c hc o q => (sb.2 c (hne c hc)).trans (k2 c o (hne c hc) q)⟩, fun c hc => ?_⟩
      · have e1 : ((i + 1 : Nat) : Int) = (i : Int) + 1 := by omega
        rw [e1]
        exact e2
      · have l1 := lt5 c hc
        rw [upd_ne (Nat.ne_of_lt (Nat.lt_of_lt_of_le l1 le1)), upd_ne (Nat.ne_of_lt l1)]
        exact (hf c hc).1
  done := by
    intro X hP hw hK hc i pins s σ H E I hf st hg
    subst hP hw hK
    obtain ⟨⟨old, he⟩, Z⟩ := st
    obtain ⟨xs, hqx, hx, _⟩ := hg
    obtain ⟨its, rv, p, _⟩ := I.list hqx
    obtain ⟨hp, g, d, tk, os⟩ := s
    have hl := rv.length
    refine en_end (Po := fun h1 => ∀ c o, c ≠ z → c ≠ TO → c ≠ i1 → c ≠ i2 → hp.get? c = some o → h1.get? c = some o) he (fun R hh k => ?_) fun h1 k1 => ⟨rfl, ?_⟩
    · exact zs_end (hh.trans (I.ok.hd hc)) D Z p.isList (by simp; omega) fun h1 x k1 hx => k h1 x k1 hx
    · exact I.turnedL (t' := tk) (ch := [z, TI, TO, i1, i2]) (fun c o hb q => k1 c o (fun q' => hb (by simp [q'])) (fun q' => hb (by simp [q'])) (fun q' => hb (by simp [q'])) (fun q' => hb (by simp [q'])) q) fun c hc => hf c (List.mem_cons_of_mem _ hc)
  self := fun A i s Q E st h => let ⟨⟨_, he⟩, _⟩ := st; wpAny_pyIter_enum he h
def iEnumZip (K : PySem.W.Frag) (ta : TA) : TI := fun σ H R => ta σ H fun vs H1 => ∃ a b xs ys, vs = [.ref a, .ref b] ∧ SqL K H1 a xs ∧ SqL K H1 b ys ∧ R (Itez K a b) H1
theorem pi_ez {X : Cx} {x1 x2 : Expr} {ta : TA} {p p2 pos pos2 tpos : Pos} {elts : List Expr} {kk : Nat} (hg : Gl X "enumerate") (hm : X.mg "enumerate" = none) (hg2 : Gl X "zip") (hm2 : X.mg "zip" = none) (ha : PA X [x1, x2] ta)
    (hs : starEach [x1, x2] X.env = (false, eval x1 X.env) :: starEach [x2] X.env := by rfl) (hpl : (backTo pos2 (starEach [x2] X.env)).any (·.1) = false := by rfl)
    (hs2 : starEach [.Call (.Name "zip" p2) [x1, x2] [] pos2] X.env = (false, eval (.Call (.Name "zip" p2) [x1, x2] [] pos2) X.env) :: starEach [] X.env := by rfl) :
    PI X (.Tuple elts kk tpos) (.Call (.Name "enumerate" p) [.Call (.Name "zip" p2) [x1, x2] [] pos2] [] pos) (iEnumZip X.K ta) := by
  refine ⟨fun pins s σ H R I h => ?_⟩
  refine Call_ (ld_blt I hg hm boot_enumerate (PyProof.Rows.callWith_type1 ?_ hs2 (by rfl)))
  rw [hs2]
  show wpAny _ _ (spliced ((false, eval (.Call (.Name "zip" p2) [x1, x2] [] pos2) X.env) :: backTo pos (starEach [] X.env))) _ _ s
  refine Calls.spliced_cons ?_
  refine Call_ (ld_blt I hg2 hm2 PyProof.Rows.boot_zip (PyProof.Rows.callWith_type1 (thn (ha.run pos2 pins s σ H _ I h) fun us s1 ⟨vs, H1, I1, r1, q1⟩ => ?_) hs hpl))
  obtain ⟨a, b, xs, ys, ex, hqx, hqy, q⟩ := q1
  subst ex
  cases r1 with
  | cons r rr =>
    cases rr with
    | cons r' rr =>
      cases rr
      cases r
      cases r'
      obtain ⟨its, rv, p1, _⟩ := I1.list hqx
      obtain ⟨its2, rv2, p3, _⟩ := I1.list hqy
      refine call_zip_2 p1.isList p3.isList fun h1 hz hTI hTO a1 a2 hsz hk => ?_
      refine Calls.spliced_nil (call_enum_self (s := { s1 with heap := h1 }) hz fun h2 he k2 => ?_)
      replace he : IsEnum h2 h1.objs.size (s1.heap.objs.size + 4) 0 .none := he
      replace k2 : ∀ b o, h1.get? b = some o → h2.get? b = some o := k2
      refine wpAny_pyIter_enum he ?_
      have I2 : Inv X pins σ H1 { s1 with heap := h2 } := I1.kept (t' := s1.toks) fun b o q => k2 b o (hk b o q)
      have e5 : h1.objs.size ∉ [s1.heap.objs.size + 4, s1.heap.objs.size + 2, s1.heap.objs.size + 3, s1.heap.objs.size, s1.heap.objs.size + 1] := fun z => by
        simp only [List.mem_cons, List.not_mem_nil, or_false] at z
        omega
      refine ⟨h1.objs.size, _, _, _, H1, rfl, I2, turn_ez (PySem.W.ktu_apart s1.heap.objs.size a b p1.lt p3.lt) e5, ⟨⟨.none, he⟩, zs_keep (h := h1) ⟨⟨.none, false, .inl rfl, hz⟩, hTI, ⟨_, _, hTO⟩, a1, a2⟩ fun c _ o q => k2 c o q⟩, fun c hcm => ?_, q⟩
      have hle : s1.heap.objs.size ≤ c := by
        simp only [List.mem_cons, List.not_mem_nil, or_false] at hcm
        rcases hcm with z | z | z | z | z | z <;> rw [z]
        · omega
        · exact Nat.le_add_right _ _
        · exact Nat.le_add_right _ _
        · exact Nat.le_add_right _ _
        · exact Nat.le_refl _
        · exact Nat.le_add_right _ _
      exact I1.fpOk hle (I1.hok.fresh hle)

/-! ### in the data layer -/
def zipI : Nat → List D → List D → List D
  | i, x :: xs, y :: ys => .tup [.int (i : Nat), .tup [x, y]] :: zipI (i + 1) xs ys
  | _, _, _ => []
theorem zipI_len : ∀ (i : Nat) (xs ys : List D), xs.length = ys.length → (zipI i xs ys).length = xs.length
  | _, [], ys, _ => by unfold zipI; rfl
  | i, x :: xs, [], h => by simp at h
  | i, x :: xs, y :: ys, h => by
    unfold zipI
    rw [List.length_cons, List.length_cons, zipI_len (i + 1) xs ys (by simpa using h)]
theorem zipI_get : ∀ (i : Nat) (xs ys : List D) (k : Nat) (x y : D), xs[k]? = some x → ys[k]? = some y → (zipI i xs ys)[k]? = some (.tup [.int ((i + k : Nat) : Int), .tup [x, y]])
  | _, [], _, _, _, _, h, _ => by simp at h
  | _, _ :: _, [], _, _, _, _, h => by simp at h
  | i, x :: xs, y :: ys, 0, u, v, h1, h2 => by
    simp at h1 h2
    subst h1 h2
    unfold zipI
    rfl
  | i, x :: xs, y :: ys, k + 1, u, v, h1, h2 => by
    unfold zipI
    rw [List.getElem?_cons_succ, zipI_get (i + 1) xs ys k u v (by simpa using h1) (by simpa using h2)]
    have e : i + 1 + k = i + (k + 1) := by omega
    rw [e]
theorem walk_ez {G : Gd} {B1 : Hp} {a b : Addr} {xs ys : List V} {ds es : List D} (hl : ds.length = es.length) (h1 : ∀ B H, Same B1 B → Same B H → SqL G.K H a xs) (h2 : ∀ B H, Same B1 B → Same B H → SqL G.K H b ys) (r1 : Reps G B1 ds xs) (r2 : Reps G B1 es ys) : DWalk G B1 (Itez G.K a b) (zipI 0 ds es) where
  goes := fun i B H hi s t => by
    rw [zipI_len 0 ds es hl] at hi
    exact ⟨xs, ys, xs[i]'(by rw [reps_len r1]; exact hi), ys[i]'(by rw [reps_len r2]; omega), h1 B H s t, h2 B H s t, List.getElem?_eq_getElem _, List.getElem?_eq_getElem _⟩
  stops := fun B H s t => ⟨xs, h1 B H s t, by rw [reps_len r1, zipI_len 0 ds es hl]; exact Nat.le_refl _, ys, h2 B H s t⟩
  ylds := fun i B H v H' hi s t y => by
    obtain ⟨T, T2, x, y, rfl, hT, hne, hT2, rfl, y1, y2⟩ := y
    obtain ⟨d, hd, rd⟩ := reps_get' r1 (y1 xs (h1 B H s t))
    obtain ⟨e, he, re⟩ := reps_get' r2 (y2 ys (h2 B H s t))
    have x1 : Ext B H (upd B T (.tup [x, y])) (upd H T (.tup [x, y])) := Ext.new t hT
    have hT2' : upd H T (.tup [x, y]) T2 = none := by rw [upd_ne hne]; exact hT2
    have x2 := x1.trans (Ext.new (o := .tup [.int (i : Nat), .ref T]) x1.i' hT2')
    have g0 := zipI_get 0 ds es i d e hd he
    rw [Nat.zero_add] at g0
    refine ⟨_, _, x2, g0, rep_tup upd_same (reps_cons rep_int (reps_one (rep_tup (by rw [upd_ne hne.symm, upd_same]) (reps_cons ?_ (reps_one ?_)))))⟩
    · exact rep_mono x2.b _ _ (rep_mono s _ _ rd)
    · exact rep_mono x2.b _ _ (rep_mono s _ _ re)
def iEZ (f : Sto → M (List D)) : Sto → M (List D) := fun ρ => match f ρ with
  | .ok [.lst xs, .lst ys] => if xs.length = ys.length then .ok (zipI 0 xs ys) else .error .stuck
  | .ok _ => .error .stuck
  | .error e => .error e
theorem di_enumzip {X : Cx} {W : WX} {x1 x2 : Expr} {g : Sto → M (List D)} {p p2 pos pos2 tpos : Pos} {elts : List Expr} {kk : Nat} (hm : X.mg "enumerate" = none) (hm2 : X.mg "zip" = none) (ha : PA X [x1, x2] (TAD (gd X al mu ex) W g)) (hg : Gl X "enumerate" := by rfl) (hg2 : Gl X "zip" := by rfl)
    (hs : starEach [x1, x2] X.env = (false, eval x1 X.env) :: starEach [x2] X.env := by rfl) (hpl : (backTo pos2 (starEach [x2] X.env)).any (·.1) = false := by rfl)
    (hs2 : starEach [.Call (.Name "zip" p2) [x1, x2] [] pos2] X.env = (false, eval (.Call (.Name "zip" p2) [x1, x2] [] pos2) X.env) :: starEach [] X.env := by rfl) :
    PI X (.Tuple elts kk tpos) (.Call (.Name "enumerate" p) [.Call (.Name "zip" p2) [x1, x2] [] pos2] [] pos) (TID (gd X al mu ex) W (iEZ g)) := (pi_ez hg hm hg2 hm2 ha hs hpl hs2).wk fun σ H R ⟨B0, H0, B, ρ, S, q⟩ => by
  unfold iEZ at q
  refine tad_i S (fun er h => by rw [h] at q; exact q) fun vs H1 B1 ds x r e => ?_
  rw [e] at q
  split at q
  · rename_i xs ys he
    cases he
    split at q
    · rename_i hl
      simp only [Reps, Rep] at r
      obtain ⟨v, t, rfl, ⟨a, us, rfl, ha, ra⟩, v2, t2, rfl, ⟨b, ws, rfl, hb, rb⟩, rfl⟩ := r
      exact ⟨a, b, us, ws, rfl, .of (x.i' _ _ ha), .of (x.i' _ _ hb), q _ B1 H1 x (walk_ez hl (fun B H s t => .of (t _ _ (s _ _ ha))) (fun B H s t => .of (t _ _ (s _ _ hb))) ra rb)⟩
    · exact q.elim
  · exact q.elim
  · rename_i he; cases he
end DL

namespace DL
open PySem PySem.Spec PyProof.Rows L2

/-! ### a def whose value is new: its caller owns it -/
def spF (K : PySem.W.Frag) (mg : Str → Option Value) (n : Nat) (m : Tbl → List D → M D) : Sp := fun vs H Q E => ∃ al mu ex B ds, ds.length = n ∧ Same B H ∧ TbOk ⟨K, mg, al, mu, ex⟩ B H ∧ Reps ⟨K, mg, al, mu, ex⟩ B ds vs ∧ FPost ⟨K, mg, al, mu, ex⟩ (fun cls d _ H' => E cls d H') B H [] Q (m mu ds)
structure FnRF (P : Program) (w : World) (K : PySem.W.Frag) (mg : Str → Option Value) (base : Heap) (k : Nat) (x : Str) (n : Nat) (m : Tbl → List D → M D) : Prop where
  ex : ∃ f fd ps, FnOk P w K mg base (L2.CX P w) k f fd ps (spF K mg n m) ∧ mg x = some (.ref f) ∧ PySem.W.keepIn K (.ref f) = true ∧ Binds K fd ps []
abbrev FnF (P : Program) (w : World) (K : PySem.W.Frag) (mg : Str → Option Value) (base : Heap) (k : Nat) (x : Str) (n : Nat) (m : List D → M D) : Prop := FnRF P w K mg base k x n fun _ => m
def Res.outF : Res → M D
  | .rt (.ow d) => .ok d
  | .er e _ => .error e
  | _ => .error .stuck
def runF (n np : Nat) (g : Sto → Res) : List D → M D := fun ds => if ds.length = np then (g (startS n ds)).outF else .error .stuck
section
variable {P : Program} {w : World} {K : PySem.W.Frag} {mg : Str → Option Value} {base : Heap}
theorem bodyF_ok {N ps : List Str} {g : Tbl → Sto → Res} {vs : List V} {H : Hp} {Q : VK} {E : XK} (h : spF K mg ps.length (fun mu => runF N.length ps.length (g mu)) vs H Q E) : ∃ al mu ex, TSD ⟨K, mg, al, mu, ex⟩ (fun cls d _ H' => E cls d H') (g mu) { nx := fun _ H' => Q .non H', rt := Q } (start N vs) H := by
  obtain ⟨al, mu, ex, B, ds, hn, s, t, r, q⟩ := h
  refine ⟨al, mu, ex, ?_⟩
  refine ⟨B, H, B, startS N.length ds, start_ok s t r, ?_⟩
  unfold runF at q
  dsimp only at q
  rw [if_pos hn] at q
  cases hr : g mu (startS N.length ds) with
  | nx ρ => rw [hr] at q; exact q.elim
  | rt sl =>
    rw [hr] at q
    cases sl with
    | sh d => exact q.elim
    | ex c o => exact q.elim
    | ow d => exact fun p B' H' x h1 h2 h3 => q p B' H' x h1 h2 h3
  | er e ρ =>
    rw [hr] at q
    intro σ B' H' S
    have q2 : ErOk ⟨K, mg, al, mu, ex⟩ (fun cls d _ H' => E cls d H') B H [] e := q
    have q3 := ErOk.mono q2 S.ext
    cases e with
    | stuck => exact q3
    | exc c a => exact q3
  | bk ρ => rw [hr] at q; exact q.elim
  | ct ρ => rw [hr] at q; exact q.elim
theorem fnrf_ok {x qual : Str} {st : Stmt} {f : Addr} {fd : FuncData} {N ps : List Str} {k n : Nat} {m : Tbl → List D → M D} {g : Tbl → Sto → Res} (F : Fun K x qual st f fd) (gm : mg x = some (.ref f)) (b : Binds K fd ps []) (S : FnScope N ps (defScope st)) (hn : ps.length = n) (hm : m = fun mu => runF N.length n (g mu))
    (hb : ∀ (al : List Addr) (mu : Tbl) (ex : Option XV) (cdv : Value) (A : Around) (outer : List Env) (s : Shared) (H : Hp) (E : XK), Room k (A.deeper (envOfC qual (defScope st) s.heap.objs.size f cdv)) → PSs (cxOf (L2.CX P w) P w K mg base N qual (defScope st) f cdv A outer s H E) (defBody st) (TSD ⟨K, mg, al, mu, ex⟩ (fun cls d _ H' => E cls d H') (g mu))) : FnRF P w K mg base (k + 1) x n m := by
  subst hn hm
  refine ⟨f, fd, ps, F.okX S (fun vs H Q E h => ?_) (fun cdv A outer s H vs Q E hr h => let ⟨al, mu, ex, h⟩ := bodyF_ok h; ⟨_, hb al mu ex cdv A outer s H E hr, h⟩), gm, F.kp, b⟩
  obtain ⟨al, mu, ex, B, ds, hn, _, _, r, _⟩ := h
  rw [reps_len r, hn]
theorem FnRF.mono {j k : Nat} {x : Str} {n : Nat} {m : Tbl → List D → M D} (F : FnRF P w K mg base j x n m) (h : j ≤ k) : FnRF P w K mg base k x n m :=
  let ⟨f, fd, ps, a, b⟩ := F.ex
  ⟨f, fd, ps, a.mono h, b⟩
theorem FnRF.d {k : Nat} {x : Str} {n : Nat} {m : Tbl → List D → M D} (F : FnRF P w K mg base k x n m) : FnR P w K mg base k x n m := by
  obtain ⟨f, fd, ps, a, b⟩ := F.ex
  refine ⟨f, fd, ps, a.imp fun vs H Q E ⟨al, mu, ex, B, ds, hn, s, t, r, q⟩ => ⟨al, mu, ex, B, ds, hn, s, t, r, ?_⟩, b⟩
  cases hm : m mu ds with
  | error e => rw [hm] at q; exact q
  | ok d =>
    rw [hm] at q
    intro p B' H' x h1 h2 h3
    obtain ⟨B2, x2, r2⟩ := freeze_rep x h1 h2 h3
    exact q _ B2 H' x2 r2
end
section
variable {X : Cx} {W : WX} {x : Str} {p pos : Pos} {e : Expr} {es : List Expr} {f : Sto → M (List D)} {k n : Nat} {m : Tbl → List D → M D}
theorem df_fn (F : FnRF X.prog X.w X.K X.mg X.base k x n m) (hr : Room k X.A) (tk : Takes X W) (ha : PA X (e :: es) (TAD (gd X al mu ex) W f)) (hl : LenA f n := by repeat (first | exact len_nil | refine len_cons ?_)) (hg : Gl X x := by rfl) (hdb : (x == ("__debug__" : Str)) = false := by decide)
    (he : starEach (e :: es) X.env = (false, eval e X.env) :: starEach es X.env := by rfl) (hpl : (backTo pos (starEach es X.env)).any (·.1) = false := by rfl) :
    PE X (.Call (.Name x p) (e :: es) [] pos) (TF (gd X al mu ex) W (eFn (m mu) f)) := by
  obtain ⟨fa, fd, ps, F, hm, hk, hb⟩ := F.ex
  refine ⟨fun pins s σ H Q I ⟨B0, H0, B, ρ, S, q⟩ => ?_⟩
  unfold eFn at q
  refine wpAny_Call_Name_kw (ld_glob I hg hm ?_ hdb)
  refine PySem.W.callWith_K (h₀ := X.base) I.ok.mod.kin hk (thn (ha.run pos pins s σ H (fun vs H1 => ∃ B1 ds, Ext B H B1 H1 ∧ Reps (gd X al mu ex) B1 ds vs ∧ f ρ = .ok ds) I (tad_i S (fun er h => by rw [h] at q; exact q) fun vs H1 B1 ds x r e => ⟨B1, ds, x, r, e⟩)) fun us s1 ⟨vs, H1, I1, r, B1, ds, x, rr, e1⟩ => ⟨I1.kIn, ?_⟩) he hpl
  rw [e1] at q
  have q' : FPost (gd X al mu ex) W B H σ Q (m mu ds) := q
  refine run_fnS F hr hb (passAt tk σ) I1 r ⟨al, mu, ex, B1, ds, ?_, x.i', S.tb.mono x, rr, ?_⟩
  · exact hl ρ ds e1
  · cases hm : m mu ds with
    | ok d => rw [hm] at q'; exact fun v B' H' x2 h1 h2 h3 => q' v B' H' (x.trans x2) (x.fresh h1) h2 h3
    | error er =>
      rw [hm] at q'
      have q2 := ErOk.mono q' x
      cases er with
      | stuck => exact q2
      | exc c a => exact q2
end

/-! ### more statements -/
def sFrz (i : Nat) (g : Sto → Res) : Sto → Res := fun ρ => match ρ[i]? with
  | some (some (.ow d)) => g (ρ.set i (some (.sh d)))
  | _ => g ρ
def sUnp (f : Sto → M D) (b : D → Sto → Option Sto) : Sto → Res := fun ρ => match f ρ with
  | .error e => .er e ρ
  | .ok d => match b d ρ with
    | some ρ' => .nx ρ'
    | none => .er .stuck ρ
def sPar (i j : Nat) (f : Sto → M (List D)) : Sto → Res := fun ρ => match f ρ with
  | .error e => .er e ρ
  | .ok [a, b] => .nx ((ρ.set i (some (.sh a))).set j (some (.sh b)))
  | .ok _ => .er .stuck ρ
def eUn (g : D → Option D) (f : Sto → M D) : Sto → M D := fun ρ => (f ρ).bind fun d => opt (g d)
def D.neg : D → Option D
  | .int i => some (.int (-i))
  | _ => none
def gRepr : List D → Option D
  | [.int i] => if i.natAbs.log2 < 1920 then some (.str (toString i)) else none
  | [.non] => some (.str "None")
  | [.bl b] => some (.str (if b then "True" else "False"))
  | _ => none
section
variable {X : Cx} {W : WX} {st : Stmt} {g : Sto → Res} {e tg : Expr} {f : Sto → M D} {pos px : Pos} {x : Str}
theorem ds_frz (i : Nat) (h : PS X st (TSD (gd X al mu ex) W g)) : PS X st (TSD (gd X al mu ex) W (sFrz i g)) := h.wk fun Dn σ H ⟨B0, H0, B, ρ, S, q⟩ => by
  unfold sFrz at q
  split at q
  · rename_i d hi
    obtain ⟨B', S', _⟩ := S.freeze hi
    exact ⟨B0, H0, B', _, S', q⟩
  · exact ⟨B0, H0, B, ρ, S, q⟩
theorem ds_unp {b : D → Sto → Option Sto} {is : List Nat} (he : PE X e (TD (gd X al mu ex) W f)) (hg : PG X tg (TGD (gd X al mu ex) b is)) (hs : swapsWithSole [tg] e pos.line X.env = pure false := by rfl) (hw : swappedStores [tg] e X.env = pure none := by rfl) (h1 : (assignEach [tg] X.env).map (·.2) = [assign tg X.env] := by rfl) :
    PS X (.Assign [tg] e pos) (TSD (gd X al mu ex) W (sUnp f b)) := (ps_asg he hg hs hw h1).wk fun Dn σ H ⟨B0, H0, B, ρ, S, q⟩ => by
  unfold sUnp at q
  refine td_i S (fun er h => by rw [h] at q; exact q σ B H S) fun v H1 B1 d x r e => ?_
  rw [e] at q
  dsimp only at q
  cases hb : b d ρ with
  | none => rw [hb] at q; exact (q σ B H S).elim
  | some ρ' =>
    rw [hb] at q
    exact ⟨B0, H0, B1, ρ, d, ρ', S.mono x, r, hb, fun σ' S' _ _ => q σ' B1 H1 S'⟩
theorem ds_par (i j : Nat) {y : Str} {a b : Expr} {fa : Sto → M (List D)} {py pt : Pos} {kt k2 pt2} (hN : X.N.Nodup) (ha : PA X [a, b] (TAD (gd X al mu ex) W fa)) (hc : X.calm = true := by rfl) (hi : X.N[i]? = some x := by rfl) (hj : X.N[j]? = some y := by rfl) (hij : i ≠ j := by decide)
    (hx : X.env.scope.names.lookup x = some .local := by rfl) (hy : X.env.scope.names.lookup y = some .local := by rfl) (hw : swappedStores [.Tuple [.Name x px, .Name y py] kt pt] (.Tuple [a, b] k2 pt2) X.env = pure (some [x, y]) := by rfl)
    (hs : swapsWithSole [.Tuple [.Name x px, .Name y py] kt pt] (.Tuple [a, b] k2 pt2) pos.line X.env = pure false := by rfl) :
    PS X (.Assign [.Tuple [.Name x px, .Name y py] kt pt] (.Tuple [a, b] k2 pt2) pos) (TSD (gd X al mu ex) W (sPar i j fa)) := (ps_par hc hN hi hj hij hx hy ha hw hs).wk fun Dn σ H ⟨B0, H0, B, ρ, S, q⟩ => by
  unfold sPar at q
  refine tad_i S (fun er h => by rw [h] at q; exact q σ B H S) fun vs H1 B1 ds x r e => ?_
  rw [e] at q
  match ds, r, q with
  | [], r, q => exact (q σ B H S).elim
  | [_], r, q => exact (q σ B H S).elim
  | _ :: _ :: _ :: _, r, q => exact (q σ B H S).elim
  | [d1, d2], r, q =>
    simp only [Reps] at r
    obtain ⟨v, t, rfl, r1, w, t2, rfl, r2, rfl⟩ := r
    exact ⟨v, w, rfl, q _ B1 H1 (((S.mono x).set_sh r1 i).set_sh r2 j)⟩
theorem ds_ext (i : Nat) {apos cpos : Pos} (he : PE X e (TD (gd X al mu ex) W f)) (hN : X.N[i]? = some x := by rfl) (hv : Vis X.env.scope x := by first | exact Or.inl rfl | exact Or.inr (Or.inl rfl) | exact Or.inr (Or.inr rfl)) (hd : (x == ("__debug__" : Str)) = false := by decide) (hcd : (x == ("__classdict__" : Str)) = false := by decide)
    (hbase : attributeBase (.Name x px) "extend" X.env (eval (.Name x px) X.env) = eval (.Name x px) X.env := by rfl)
    (hfew : ((backTo cpos (starEach (e :: []) X.env)).all (fun x => !x.1) && (backToKw cpos (keywordEach [] X.env)).all (fun x => x.1.isSome)
      && decide ((e :: []).length + ([] : List Keyword).length + (if ([] : List Keyword).isEmpty then 0 else 1) < 30)) = true := by rfl)
    (hline : (apos.endLine == cpos.line) = true := by rfl) (hs : starEach (e :: []) X.env = (false, eval e X.env) :: starEach [] X.env := by rfl) (hsw : swapsWith (.Call (.Attribute (.Name x px) "extend" apos) [e] [] cpos) none pos.line X.env = pure false := by rfl) :
    PS X (.Expr (.Call (.Attribute (.Name x px) "extend" apos) [e] [] cpos) pos) (TSD (gd X al mu ex) W (sExt i f)) :=
  (ps_expr (pe_bm PySem.F.plainAttrs_list PySem.F.slot_list_extend PySem.F.type_list_extend mt_extend (pe_var hN hv hd hcd) (pa_cons he pa_nil hs) hbase hfew hline hs rfl) hsw).wk fun Dn σ H ⟨B0, H0, B, ρ, S, q⟩ => by
    unfold sExt at q
    rcases owL_cases i ρ with ⟨ds, hi, ek⟩ | ek
    · rw [ek] at q
      obtain ⟨p, h1, h2, h3, xs, h4, rs⟩ := S.ow i _ hi
      refine ⟨_, h1, .inl ⟨rfl, xs, .of h4⟩, td_i S (fun er h => by rw [h] at q; exact q σ B H S) fun v H1 B1 d x r e => ?_⟩
      rw [e] at q
      cases d with
      | lst es =>
        dsimp only at q
        split at q
        · rename_i hl
          have h4' := x.h _ _ h4
          have S1 := S.mono x
          simp only [Rep] at r
          obtain ⟨a, ys, rfl, ha, ra⟩ := r
          exact ⟨p, a, xs, ys, rfl, rfl, h4', x.i' _ _ ha, by rw [reps_len rs, reps_len ra]; exact lim_of hl, q _ B1 _ (S1.upd_ow hi h1 ⟨_, upd_same, reps_app (reps_mono x.b _ _ rs) ra⟩)⟩
        · exact (q σ B H S).elim
      | _ => exact (q σ B H S).elim
    · rw [ek] at q; exact (q σ B H S).elim
theorem de_neg {a : Expr} (ha : PE X a (TR (gd X al mu ex) W f)) : PE X (.UnaryOp .USub a pos) (TD (gd X al mu ex) W (eUn D.neg f)) := (pe_un un_neg ha).wk fun σ H Q ⟨B0, H0, B, ρ, S, q⟩ => by
  unfold eUn at q
  refine tr_i S (fun er h => by rw [h] at q; exact q) fun v H1 B1 d x r e => ?_
  rw [e] at q
  have q' : DPost (gd X al mu ex) W B H σ Q (opt (D.neg d)) := q
  cases d with
  | int i =>
    have v' := rdb_int r
    subst v'
    exact ⟨i, rfl, q' _ B1 H1 x rep_int⟩
  | _ => exact q'.elim
end
def rReprF : List V → Hp → VK → Prop := fun xs H Q => (∃ i, xs = [.int i] ∧ i.natAbs.log2 < 1920 ∧ Q (.str (toString i)) H) ∨ (xs = [.non] ∧ Q (.str "None") H) ∨ ∃ b, xs = [.bl b] ∧ Q (.str (if b then "True" else "False")) H
theorem call_reprD {X : Cx} : CallR X (.builtin "repr") rReprF := by
  intro pins s σ H xs us Q I r h
  rcases h with h | ⟨rfl, q⟩ | ⟨b, rfl, q⟩
  · exact SkE.call_repr_int pins s σ H xs us Q I r h
  · obtain ⟨u, rfl, ru⟩ := vals1 r
    cases ru
    exact PySem.P.repr_of_none ⟨.str _, H, I.tok _, ⟨_, rfl⟩, q⟩
  · obtain ⟨u, rfl, ru⟩ := vals1 r
    cases ru
    exact PySem.P.repr_of_bool ⟨.str _, H, I.tok _, ⟨_, rfl⟩, q⟩
theorem ci_repr {G : Gd} : CallI G rReprF gRepr := fun B H ds xs z Q s r hz k => by
  unfold gRepr at hz
  split at hz
  · split at hz
    · rename_i hl
      cases hz
      obtain ⟨v, rfl, r1⟩ := rdbs1 r
      have v' := rdb_int r1
      subst v'
      exact .inl ⟨_, rfl, hl, k _ B H (Ext.refl s) rep_str⟩
    · cases hz
  · cases hz
    obtain ⟨v, rfl, r1⟩ := rdbs1 r
    have v' := rdb_non r1
    subst v'
    exact .inr (.inl ⟨rfl, k _ B H (Ext.refl s) rep_str⟩)
  · cases hz
    obtain ⟨v, rfl, r1⟩ := rdbs1 r
    have v' := rdb_bl r1
    subst v'
    exact .inr (.inr ⟨_, rfl, k _ B H (Ext.refl s) rep_str⟩)
  · cases hz

/-! ### errors of the program's own that hold one text -/
structure ExcT (K : PySem.W.Frag) (mg : Str → Option Value) (c : EC) : Prop where
  ex : ∃ C, mg c.name = some (.ref C) ∧ PySem.W.keepIn K (.ref C) = true ∧ PySem.W.excIn K C [.type "ValueError", .type "Exception", .type "BaseException", .type "object"] "ValueError.__new__" = true ∧ PySem.W.subIn K (.ref C) (.type "BaseException") = some true ∧ PySem.W.typeIn K (.ref C) = some (.type "type")
theorem ExcT.raise {al : List Addr} {mu : Tbl} {ex : Option XV} {X : Cx} {W : WX} {c : EC} {m : Str} {j : Nat} {x : Str} {p p2 pos pos' : Pos} (T : ExcT X.K X.mg c) (c' : EC) (hc : X.calm = true) (tk : Takes X W) (e1 : c' = c := by rfl) (e2 : x = c.name := by rfl) (hg : Gl X x := by rfl) (hdb : (x == ("__debug__" : Str)) = false := by decide) :
    PS X (.Raise (some (.Call (.Name x p) [.Constant (.str m) j p2] [] pos)) none pos') (TSD (gd X al mu ex) W (sRaise c none)) := by
  obtain ⟨C, g, k, q, s, t⟩ := T.ex
  subst e2
  exact ds_raise hc tk g (pmk_own PySem.F.excBase_ValueError q g k (raises_own s t) hg hdb)
end DL

namespace DL
open PySem PySem.Spec PyProof.Rows L2

theorem de_globE {X : Cx} {W : WX} {pos : Pos} {x : Str} {i : Int} (hg : Gl X x) (hm : ∃ t, X.mg x = some (.int i t)) (hd : (x == ("__debug__" : Str)) = false := by decide) : PE X (.Name x pos) (TD (gd X al mu ex) W (eC (.int i))) :=
  let ⟨_, h⟩ := hm
  de_globI hg h hd
theorem de_globES {X : Cx} {W : WX} {pos : Pos} {x i : Str} (hg : Gl X x) (hm : ∃ t, X.mg x = some (.str i t)) (hd : (x == ("__debug__" : Str)) = false := by decide) : PE X (.Name x pos) (TD (gd X al mu ex) W (eC (.str i))) :=
  let ⟨_, h⟩ := hm
  de_globS hg h hd

/-! ### what the written part says of a def -/
structure FF (K : PySem.W.Frag) (mg : Str → Option Value) (x : Str) (st : Stmt) (ps : List Str) : Prop where
  ex : ∃ f fd, Fun K x x st f fd ∧ mg x = some (.ref f) ∧ Binds K fd ps []
section
variable {K : PySem.W.Frag} {mg : Str → Option Value} {h : Heap} {x : Str} {st : Stmt} {ps : List Str} {f : Addr} {oc : Value} {od an : Option Addr} {osl : Array (Option Value)} {kV doc pm cdv ct : Value}
theorem ff_mk (X : K.In h) (G : h.Ns mainGlobals mg) (a : PySem.W.nsIn K mainGlobals x = some (some (.ref f))) (l : K.lookup f = some ⟨oc, od, .func (PySem.W.fnOf x x (defArgs st) (defBody st) (defScope st) .none kV doc pm an cdv ct), osl⟩) (c : PySem.W.codeIn K cdv x = true) (k : PySem.W.keepIn K (.ref f) = true)
    (hb : ∀ (kV doc pm : Value) (an : Option Addr) (cdv ct : Value) (us : List Value), us.length = ps.length → bindArgs (PySem.W.fnOf x x (defArgs st) (defBody st) (defScope st) .none kV doc pm an cdv ct) ⟨us, []⟩ = pure (ps.zip us)) : FF K mg x st ps :=
  ⟨f, _, fun_mk l c k, PySem.W.mg_of X G a, (fun_mk l c k).binds hb⟩
theorem exc_mk {e : EC} {C : Addr} (X : K.In h) (G : h.Ns mainGlobals mg) (a : PySem.W.nsIn K mainGlobals e.name = some (some (.ref C))) (k : PySem.W.keepIn K (.ref C) = true)
    (q : PySem.W.excIn K C [.type "ValueError", .type "Exception", .type "BaseException", .type "object"] "ValueError.__new__" = true) (s : PySem.W.subIn K (.ref C) (.type "BaseException") = some true) (t : PySem.W.typeIn K (.ref C) = some (.type "type")) : ExcT K mg e :=
  ⟨C, PySem.W.mg_of X G a, k, q, s, t⟩
theorem int_mk {i : Int} {t : Tok} (X : K.In h) (G : h.Ns mainGlobals mg) (a : PySem.W.nsIn K mainGlobals x = some (some (.int i t))) : ∃ t, mg x = some (.int i t) := ⟨t, PySem.W.mg_of X G a⟩
variable {P : Program} {w : World} {base : Heap}
theorem ffd {N : List Str} {k n : Nat} {m : List D → M D} {g : Sto → Res} (F : FF K mg x st ps) (S : FnScope N ps (defScope st)) (hn : ps.length = n) (hm : m = runD N.length n g)
    (hb : ∀ (al : List Addr) (mu : Tbl) (ex : Option XV) (f : Addr) (cdv : Value) (A : Around) (outer : List Env) (s : Shared) (H : Hp) (E : XK), Room k (A.deeper (envOfC x (defScope st) s.heap.objs.size f cdv)) → PSs (cxOf (L2.CX P w) P w K mg base N x (defScope st) f cdv A outer s H E) (defBody st) (TSD ⟨K, mg, al, mu, ex⟩ (fun cls d _ H' => E cls d H') g)) : FnD P w K mg base (k + 1) x n m :=
  let ⟨f, _, F, gm, b⟩ := F.ex
  fnr_ok (g := fun _ => g) F gm b S hn (by rw [hm]) (fun al mu ex => hb al mu ex f)
theorem fff {N : List Str} {k n : Nat} {m : List D → M D} {g : Sto → Res} (F : FF K mg x st ps) (S : FnScope N ps (defScope st)) (hn : ps.length = n) (hm : m = runF N.length n g)
    (hb : ∀ (al : List Addr) (mu : Tbl) (ex : Option XV) (f : Addr) (cdv : Value) (A : Around) (outer : List Env) (s : Shared) (H : Hp) (E : XK), Room k (A.deeper (envOfC x (defScope st) s.heap.objs.size f cdv)) → PSs (cxOf (L2.CX P w) P w K mg base N x (defScope st) f cdv A outer s H E) (defBody st) (TSD ⟨K, mg, al, mu, ex⟩ (fun cls d _ H' => E cls d H') g)) : FnF P w K mg base (k + 1) x n m :=
  let ⟨f, _, F, gm, b⟩ := F.ex
  fnrf_ok (g := fun _ => g) F gm b S hn (by rw [hm]) (fun al mu ex => hb al mu ex f)

/-! ### the law -/
def spL (K : PySem.W.Frag) : Sp := fun vs H Q _ => ∃ (a : Addr) (ns : List Int), vs = [.ref a] ∧ SqL K H a (ns.map V.int) ∧ ns.length ≤ 63 ∧ ∀ H', Q (.bl true) H'
def scr (ns : List Int) : D := .fls (ns.map D.int)
theorem reps_map_int {G : Gd} {B : Hp} : ∀ ns : List Int, Reps G B (ns.map D.int) (ns.map V.int)
  | [] => by simp only [List.map_nil, Reps]
  | n :: ns => reps_cons rep_int (reps_map_int ns)
theorem law_imp {k : Nat} {f : Addr} {fd : FuncData} {m : List D → M D} (F : FnOk P w K mg base (L2.CX P w) k f fd ps (spD K mg 1 fun _ => m)) (h : ∀ ns : List Int, ns.length ≤ 63 → m [scr ns] = .ok (.bl true)) : FnOk P w K mg base (L2.CX P w) k f fd ps (spL K) :=
  F.imp fun vs H Q E ⟨a, ns, e, hS, hl, q⟩ => by
    subst e
    refine ⟨[], [], none, H, [scr ns], rfl, Same.refl _, ⟨rfl, fun i j a h => by simp at h, fun n a c h => by simp at h⟩, reps_one ?_, ?_⟩
    · show Rep _ _ (.fls _) _
      simp only [Rep]
      exact ⟨a, _, rfl, hS, reps_map_int ns⟩
    · show DPost _ _ _ _ _ _ (m [scr ns])
      rw [h ns hl]
      intro v B' H' _ r
      simp only [Rep] at r
      subst r
      exact q H'
end
theorem walkD {l : PySem.W.OpenLaw} {q : Program} {loose : List Str} {XP : (Str → Option Value) → Heap → Prop} {YP : World → Heap → Prop} {d : DefRec} {K : Params → PySem.W.Frag} {k : Nat} {x : Str} (hn : l.most = some 63) (hdf : d.params.defaults = []) (hr : Room k callerA)
    (hY : ∀ (w : World) (h : Heap), YP w h → (K w.params).In h)
    (F : ∀ (w : World) (mg : Str → Option Value) (fa : Addr) (h : Heap), (K w.params).In h → h.Ns mainGlobals mg → mg d.name = some (.ref fa) →
      ∃ fd : FuncData, (∀ (s : Shared) (u : Value), BindsTo s fd ⟨[u], []⟩ [(x, u)]) ∧ ∀ base : Heap, (K w.params).In base → base.Ns mainGlobals mg → FnOk l.prog w (K w.params) mg base (L2.CX l.prog w) k fa fd [x] (spL (K w.params))) :
    PySem.W.WalkO q loose XP YP l.row.toRowW d [] (fun f vs => PySem.call f vs) :=
  L2.walk_of (n := 63) (k := k) (x := x) (CX := fun w => L2.CX l.prog w) (sp := fun w => spL (K w.params)) hn (by decide) hdf hr hY F (fun _ _ a ns hl _ hS => ⟨a, ns, rfl, hS, hl, fun _ => rfl⟩) fun _ _ _ _ _ z => by
    obtain ⟨_, _, _, _, _, _, _, _, _, _, _, _, q⟩ := z
    exact q
/-- the law's own def -/
theorem law_mk {K : PySem.W.Frag} {mg : Str → Option Value} {h : Heap} {x a0 : Str} {st : Stmt} {f fa : Addr} {oc : Value} {od an : Option Addr} {osl : Array (Option Value)} {kV doc pm cdv ct : Value} {P : Program} {w : World} {N : List Str} {k : Nat} {m : List D → M D} {g : Sto → Res}
    (X : K.In h) (G : h.Ns mainGlobals mg) (hfa : mg x = some (.ref fa)) (a : PySem.W.nsIn K mainGlobals x = some (some (.ref f))) (l : K.lookup f = some ⟨oc, od, .func (PySem.W.fnOf x x (defArgs st) (defBody st) (defScope st) .none kV doc pm an cdv ct), osl⟩) (c : PySem.W.codeIn K cdv x = true) (kp : PySem.W.keepIn K (.ref f) = true)
    (hb1 : ∀ (s : Shared) (u : Value), BindsTo s (PySem.W.fnOf x x (defArgs st) (defBody st) (defScope st) .none kV doc pm an cdv ct) ⟨[u], []⟩ [(a0, u)]) (S : FnScope N [a0] (defScope st)) (hm : m = runD N.length 1 g)
    (hb : ∀ (al : List Addr) (mu : Tbl) (ex : Option XV) (base : Heap) (f : Addr) (cdv : Value) (A : Around) (outer : List Env) (s : Shared) (H : Hp) (E : XK), Room k (A.deeper (envOfC x (defScope st) s.heap.objs.size f cdv)) → PSs (cxOf (L2.CX P w) P w K mg base N x (defScope st) f cdv A outer s H E) (defBody st) (TSD ⟨K, mg, al, mu, ex⟩ (fun cls d _ H' => E cls d H') g))
    (hl : ∀ ns : List Int, ns.length ≤ 63 → m [scr ns] = .ok (.bl true)) :
    ∃ fd : FuncData, (∀ (s : Shared) (u : Value), BindsTo s fd ⟨[u], []⟩ [(a0, u)]) ∧ ∀ base : Heap, K.In base → base.Ns mainGlobals mg → FnOk P w K mg base (L2.CX P w) (k + 1) fa fd [a0] (spL K) := by
  have e := hfa.symm.trans (PySem.W.mg_of X G a)
  cases e
  refine ⟨_, hb1, fun base _ _ => law_imp (m := m) ?_ hl⟩
  subst hm
  refine (fun_mk l c kp).okX S (fun vs H Q E h => ?_) (fun cdv A outer s H vs Q E hr h => let ⟨al, mu, ex, h⟩ := body_ok (g := fun _ => g) (ps := [a0]) h; ⟨_, hb al mu ex base _ cdv A outer s H E hr, h⟩)
  obtain ⟨al, mu, ex, B, ds, hn, _, _, r, _⟩ := h
  rw [reps_len r, hn]
  rfl
end DL

namespace DL
open PySem PySem.Spec PyProof.Rows L2

/-! ### things that may be changed: how the whole grows -/
structure Gro (al : List Addr) (B H : Hp) (al' : List Addr) (B' H' : Hp) : Prop where
  nw : ∃ ws, al' = al ++ ws ∧ ∀ a ∈ ws, H a = none
  i : Same B H
  b : Same B B'
  i' : Same B' H'
  h : ∀ a o, H a = some o → a ∉ al → H' a = some o
  g : ∀ a, H a ≠ none → H' a ≠ none
  n : ∀ a, H a ≠ none → B' a = B a
section
variable {al al' al1 : List Addr} {B H B' H' B1 H1 : Hp}
theorem Gro.of (e : Ext B H B' H') : Gro al B H al B' H' :=
  ⟨⟨[], by simp, fun a h => by cases h⟩, e.i, e.b, e.i', fun a o h _ => e.h a o h, fun a h => by
    cases q : H a with
    | none => exact (h q).elim
    | some o => rw [e.h a o q]; simp, e.n⟩
theorem Gro.refl (s : Same B H) : Gro al B H al B H := .of (Ext.refl s)
theorem Gro.trans (x : Gro al B H al1 B1 H1) (y : Gro al1 B1 H1 al' B' H') : Gro al B H al' B' H' := by
  obtain ⟨ws, e1, n1⟩ := x.nw
  obtain ⟨us, e2, n2⟩ := y.nw
  refine ⟨⟨ws ++ us, by rw [e2, e1, List.append_assoc], fun a ha => ?_⟩, x.i, x.b.trans y.b, y.i', fun a o h na => ?_, fun a h => y.g a (x.g a h), fun a h => by rw [y.n a (x.g a h), x.n a h]⟩
  · rcases List.mem_append.mp ha with ha | ha
    · exact n1 a ha
    · cases q : H a with
      | none => rfl
      | some o => exact (x.g a (by rw [q]; simp) (n2 a ha)).elim
  · refine y.h a o (x.h a o h na) fun z => ?_
    rw [e1] at z
    rcases List.mem_append.mp z with z | z
    · exact na z
    · rw [n1 a z] at h; cases h
theorem Gro.get (x : Gro al B H al' B' H') : ∀ (n : Nat) (a : Addr), al[n]? = some a → al'[n]? = some a := fun n a h => by
  obtain ⟨ws, e, _⟩ := x.nw
  rw [e, List.getElem?_append_left (List.getElem?_eq_some_iff.mp h).1, h]
theorem Gro.out {p : Addr} (x : Gro al B H al' B' H') (hp : H p ≠ none) (h : p ∉ al) : p ∉ al' := fun z => by
  obtain ⟨ws, e, n⟩ := x.nw
  rw [e] at z
  rcases List.mem_append.mp z with z | z
  · exact h z
  · exact hp (n p z)
theorem Gro.free {p : Addr} (x : Gro al B H al' B' H') (hp : H' p = none) : H p = none := by
  cases q : H p with
  | none => rfl
  | some o => exact (x.g p (by rw [q]; simp) hp).elim
end
section
variable {K : PySem.W.Frag} {mg : Str → Option Value} {al al' al0 : List Addr} {mu mu' : Tbl} {B H B' H' B0 H0 : Hp} {σ σ' : L2.St} {ρ ρ' : Sto}
theorem Gro.rep {d : D} {v : V} (x : Gro al B H al' B' H') (r : Rep ⟨K, mg, al, mu, ex⟩ B d v) : Rep ⟨K, mg, al', mu', ex⟩ B' d v := rep_mono x.b _ _ (rep_grow x.get _ _ r)
theorem Gro.reps {d : List D} {v : List V} (x : Gro al B H al' B' H') (r : Reps ⟨K, mg, al, mu, ex⟩ B d v) : Reps ⟨K, mg, al', mu', ex⟩ B' d v := reps_mono x.b _ _ (reps_grow x.get _ _ r)
theorem OwAt.grow {p : Addr} {d : D} (h : ∀ (n : Nat) (a : Addr), al[n]? = some a → al'[n]? = some a) (o : OwAt ⟨K, mg, al, mu, ex⟩ B H p d) : OwAt ⟨K, mg, al', mu', ex⟩ B H p d := by
  cases d with
  | lst ds => obtain ⟨xs, q, r⟩ := o; exact ⟨xs, q, reps_grow h _ _ r⟩
  | dic kvs =>
    rcases o with ⟨t, q, r⟩ | ⟨t, q, r⟩
    · exact .inl ⟨t, q, rept_grow h _ _ r⟩
    · exact .inr ⟨t, q, repk_grow h _ _ r⟩
  | _ => exact o.elim
structure StT (K : PySem.W.Frag) (mg : Str → Option Value) (ex : Option XV) (al0 : List Addr) (B0 H0 : Hp) (al : List Addr) (mu : Tbl) (B H : Hp) (σ : L2.St) (ρ : Sto) : Prop where
  gro : Gro al0 B0 H0 al B H
  len : σ.length = ρ.length
  sh : ∀ (i : Nat) (d : D), ρ[i]? = some (some (Sl.sh d)) → ∃ v, σ[i]? = some (some v) ∧ Rep ⟨K, mg, al, mu, ex⟩ B d v
  ow : ∀ (i : Nat) (d : D), ρ[i]? = some (some (Sl.ow d)) → ∃ p, σ[i]? = some (some (V.ref p)) ∧ (H0 p = none ∧ p ∉ al) ∧ B p = none ∧ OwAt ⟨K, mg, al, mu, ex⟩ B H p d
  ap : ∀ (i j : Nat) (d e : D) (p : Addr), ρ[i]? = some (some (Sl.ow d)) → ρ[j]? = some (some (Sl.ow e)) → σ[i]? = some (some (V.ref p)) → σ[j]? = some (some (V.ref p)) → i = j
  tb : TbOk ⟨K, mg, al, mu, ex⟩ B H
  xs : ∀ (i : Nat) (c : EC) (o : Option Int), ρ[i]? = some (some (Sl.ex c o)) → XsAt ⟨K, mg, al, mu, ex⟩ B σ[i]? c o
theorem StT.grow (S : StT K mg ex al0 B0 H0 al mu B H σ ρ) (x : Gro al B H al' B' H') (t : TbOk ⟨K, mg, al', mu', ex⟩ B' H') : StT K mg ex al0 B0 H0 al' mu' B' H' σ ρ :=
  ⟨S.gro.trans x, S.len, fun i d h => let ⟨v, h1, h2⟩ := S.sh i d h; ⟨v, h1, x.rep h2⟩, fun i d h => by
    obtain ⟨p, h1, h2, h3, h4⟩ := S.ow i d h
    obtain ⟨o, ho⟩ := h4.get
    have hn : H p ≠ none := by rw [ho]; simp
    exact ⟨p, h1, ⟨h2.1, x.out hn h2.2⟩, by rw [x.n p hn]; exact h3, (h4.grow x.get).mono x.b fun o q => x.h p o q h2.2⟩, S.ap, t, fun i c o h => (S.xs i c o h).mono x.b⟩
/-- all but the slots' own things -/
def OwnP (σ : L2.St) (ρ : Sto) (a : Addr) : Prop := ∃ (i : Nat) (d : D), ρ[i]? = some (some (Sl.ow d)) ∧ σ[i]? = some (some (V.ref a))
open Classical in
noncomputable def less (H : Hp) (σ : L2.St) (ρ : Sto) : Hp := fun a => if OwnP σ ρ a then none else H a
theorem less_some {a : Addr} {o : HO} (h : less H σ ρ a = some o) : H a = some o := by
  unfold less at h
  split at h
  · cases h
  · exact h
theorem less_of {a : Addr} (h : ¬ OwnP σ ρ a) : less H σ ρ a = H a := by
  unfold less
  rw [if_neg h]
theorem less_own {a : Addr} (h : OwnP σ ρ a) : less H σ ρ a = none := by
  unfold less
  rw [if_pos h]
theorem StT.not0 (S : StT K mg ex al0 B0 H0 al mu B H σ ρ) {a : Addr} (h : H0 a ≠ none) : ¬ OwnP σ ρ a := fun ⟨i, d, h1, h2⟩ => by
  obtain ⟨p, g1, g2, _⟩ := S.ow i d h1
  rw [h2] at g1
  cases g1
  exact h g2.1
theorem StT.notT (S : StT K mg ex al0 B0 H0 al mu B H σ ρ) {a : Addr} (h : a ∈ al) : ¬ OwnP σ ρ a := fun ⟨i, d, h1, h2⟩ => by
  obtain ⟨p, g1, g2, _⟩ := S.ow i d h1
  rw [h2] at g1
  cases g1
  exact g2.2 h
theorem StT.notB (S : StT K mg ex al0 B0 H0 al mu B H σ ρ) {a : Addr} {o : HO} (h : B a = some o) : ¬ OwnP σ ρ a := fun ⟨i, d, h1, h2⟩ => by
  obtain ⟨p, g1, _, g3, _⟩ := S.ow i d h1
  rw [h2] at g1
  cases g1
  rw [g3] at h; cases h
theorem StT.pure (S : StT K mg ex al0 B0 H0 al mu B H σ ρ) : StOk ⟨K, mg, al, mu, ex⟩ B (less H σ ρ) B H σ ρ :=
  ⟨⟨fun a o e => by rw [less_of (S.notB e)]; exact S.gro.i' a o e, Same.refl _, S.gro.i', fun a o e => less_some e, fun _ _ => rfl⟩, S.len, S.sh, fun i d h => by
    obtain ⟨p, h1, h2, h3, h4⟩ := S.ow i d h
    exact ⟨p, h1, ⟨less_own ⟨i, d, h, h1⟩, h2.2⟩, h3, h4⟩, S.ap, S.tb, S.xs⟩
theorem StT.backE (S : StT K mg ex al0 B0 H0 al mu B H σ ρ) (x : Ext B (less H σ ρ) B' H') : Gro al0 B0 H0 al B' H' ∧ TbOk ⟨K, mg, al, mu, ex⟩ B' H' := by
  have there : ∀ a, H0 a ≠ none → less H σ ρ a = H a ∧ H a ≠ none := fun a h => ⟨less_of (S.not0 h), S.gro.g a h⟩
  refine ⟨⟨S.gro.nw, S.gro.i, S.gro.b.trans x.b, x.i', fun a o h na => ?_, fun a h => ?_, fun a h => ?_⟩, S.tb.keep x.b (fun a h => ?_) fun a h o e => ?_⟩
  · refine x.h a o ?_
    rw [(there a (by rw [h]; simp)).1]
    exact S.gro.h a o h na
  · obtain ⟨h1, h2⟩ := there a h
    cases q : H a with
    | none => exact (h2 q).elim
    | some o => rw [x.h a o (by rw [h1, q])]; simp
  · obtain ⟨h1, h2⟩ := there a h
    rw [x.n a (by rw [h1]; exact h2), S.gro.n a h]
  · obtain ⟨h1, o, h2⟩ := S.tb.get h
    rw [x.n a (by rw [less_of (S.notT h), h2]; simp)]
    exact h1
  · exact x.h a o (by rw [less_of (S.notT h)]; exact e)
theorem StT.back (S : StT K mg ex al0 B0 H0 al mu B H σ ρ) (S' : StOk ⟨K, mg, al, mu, ex⟩ B (less H σ ρ) B' H' σ' ρ') : StT K mg ex al0 B0 H0 al mu B' H' σ' ρ' :=
  ⟨(S.backE S'.ext).1, S'.len, S'.sh, fun i d h => by
    obtain ⟨p, h1, h2, h3, h4⟩ := S'.ow i d h
    refine ⟨p, h1, ⟨?_, h2.2⟩, h3, h4⟩
    cases q : H0 p with
    | none => rfl
    | some o =>
      have := h2.1
      rw [less_of (S.not0 (by rw [q]; simp))] at this
      exact (S.gro.g p (by rw [q]; simp) this).elim, S'.ap, S'.tb, S'.xs⟩
theorem StT.mono (S : StT K mg ex al0 B0 H0 al mu B H σ ρ) (x : Ext B H B' H') : StT K mg ex al0 B0 H0 al mu B' H' σ ρ := S.grow (.of x) (S.tb.mono x)

/-! ### readings -/
abbrev TF1 := Tbl → Sto → M D × Tbl
def DPostT (K : PySem.W.Frag) (mg : Str → Option Value) (ex : Option XV) (W : WX) (al : List Addr) (B H : Hp) (σ : L2.St) (Q : VK) : M D × Tbl → Prop
  | (.ok d, mu') => ∀ v al' B' H', Gro al B H al' B' H' → TbOk ⟨K, mg, al', mu', ex⟩ B' H' → Rep ⟨K, mg, al', mu', ex⟩ B' d v → Q v H'
  | (.error e, mu') => ∀ al' B' H', Gro al B H al' B' H' → TbOk ⟨K, mg, al', mu', ex⟩ B' H' → ErOk ⟨K, mg, al', mu', ex⟩ W B' H' σ e
def TDT (K : PySem.W.Frag) (mg : Str → Option Value) (ex : Option XV) (W : WX) (F : TF1) : TE := fun σ H Q => ∃ al0 B0 H0 al mu B ρ, StT K mg ex al0 B0 H0 al mu B H σ ρ ∧ DPostT K mg ex W al B H σ Q (F mu ρ)
def SPostT (K : PySem.W.Frag) (mg : Str → Option Value) (ex : Option XV) (W : WX) (al0 : List Addr) (B0 H0 : Hp) (Dn : Ends) : Res × Tbl → Prop
  | (.nx ρ, mu) => ∀ σ al B H, StT K mg ex al0 B0 H0 al mu B H σ ρ → Dn.nx σ H
  | (.bk ρ, mu) => ∀ σ al B H, StT K mg ex al0 B0 H0 al mu B H σ ρ → Dn.bk σ H
  | (.ct ρ, mu) => ∀ σ al B H, StT K mg ex al0 B0 H0 al mu B H σ ρ → Dn.ct σ H
  | (.rt (.sh d), mu) => ∀ v al B H, Gro al0 B0 H0 al B H → TbOk ⟨K, mg, al, mu, ex⟩ B H → Rep ⟨K, mg, al, mu, ex⟩ B d v → Dn.rt v H
  | (.rt (.ow d), mu) => ∀ p al B H, Gro al0 B0 H0 al B H → TbOk ⟨K, mg, al, mu, ex⟩ B H → H0 p = none → p ∉ al → B p = none → OwAt ⟨K, mg, al, mu, ex⟩ B H p d → Dn.rt (.ref p) H
  | (.rt (.ex _ _), mu) => ∀ al B H, Gro al0 B0 H0 al B H → TbOk ⟨K, mg, al, mu, ex⟩ B H → False
  | (.er e ρ, mu) => ∀ σ al B H, StT K mg ex al0 B0 H0 al mu B H σ ρ → ErOk ⟨K, mg, al, mu, ex⟩ W B H σ e
def TST (K : PySem.W.Frag) (mg : Str → Option Value) (ex : Option XV) (W : WX) (g : Tbl → Sto → Res × Tbl) : TS := fun Dn σ H => ∃ al0 B0 H0 al mu B ρ, StT K mg ex al0 B0 H0 al mu B H σ ρ ∧ SPostT K mg ex W al0 B0 H0 Dn (g mu ρ)
end
theorem tdt_i {K : PySem.W.Frag} {mg : Str → Option Value} {W : WX} {al0 al : List Addr} {mu : Tbl} {B0 H0 B H : Hp} {σ : L2.St} {ρ : Sto} {F : TF1} {Q : VK} (S : StT K mg ex al0 B0 H0 al mu B H σ ρ)
    (hE : ∀ e mu', F mu ρ = (.error e, mu') → ∀ al' B' H', Gro al B H al' B' H' → TbOk ⟨K, mg, al', mu', ex⟩ B' H' → ErOk ⟨K, mg, al', mu', ex⟩ W B' H' σ e)
    (k : ∀ v al1 mu1 B1 H1 d, Gro al B H al1 B1 H1 → TbOk ⟨K, mg, al1, mu1, ex⟩ B1 H1 → Rep ⟨K, mg, al1, mu1, ex⟩ B1 d v → F mu ρ = (.ok d, mu1) → Q v H1) : TDT K mg ex W F σ H Q := by
  refine ⟨al0, B0, H0, al, mu, B, ρ, S, ?_⟩
  cases hf : F mu ρ with
  | mk r mu1 =>
    cases r with
    | ok d => exact fun v al' B' H' x t r => k v al' mu1 B' H' d x t r hf
    | error e => exact hE e mu1 hf
def eP (f : Tbl → Sto → M D) : TF1 := fun mu ρ => (f mu ρ, mu)
def sP (g : Tbl → Sto → Res) : Tbl → Sto → Res × Tbl := fun mu ρ => (g mu ρ, mu)
section
variable {X : Cx} {W : WX} {e : Expr} {st : Stmt} {sts : List Stmt}
theorem te_lift {f : Tbl → Sto → M D} (h : ∀ al mu, PE X e (TD (gd X al mu ex) W (f mu))) : PE X e (TDT X.K X.mg ex W (eP f)) := ⟨fun pins s σ H Q I q => by
  obtain ⟨al0, B0, H0, al, mu, B, ρ, S, q⟩ := q
  refine (h al mu).run pins s σ H Q I ⟨_, _, _, _, S.pure, ?_⟩
  unfold eP at q
  cases hf : f mu ρ with
  | ok d => rw [hf] at q; exact fun v B' H' x r => q v al B' H' (.of x) (S.tb.mono x) r
  | error er => rw [hf] at q; exact q al B H (.refl S.gro.i') S.tb⟩
theorem spost_lift {Dn : Ends} {al0 al : List Addr} {mu : Tbl} {B0 H0 B H : Hp} {σ : L2.St} {ρ : Sto} {r : Res} (S : StT X.K X.mg ex al0 B0 H0 al mu B H σ ρ) (q : SPostT X.K X.mg ex W al0 B0 H0 Dn (r, mu)) : SPost (gd X al mu ex) W B (less H σ ρ) Dn r := by
  cases r with
  | nx ρ' => exact fun σ' B' H' S' => q σ' al B' H' (S.back S')
  | bk ρ' => exact fun σ' B' H' S' => q σ' al B' H' (S.back S')
  | ct ρ' => exact fun σ' B' H' S' => q σ' al B' H' (S.back S')
  | er er ρ' => exact fun σ' B' H' S' => q σ' al B' H' (S.back S')
  | rt s =>
    cases s with
    | sh d => exact fun v B' H' x r => q v al B' H' (S.backE x).1 (S.backE x).2 r
    | ex c o => exact (q al B H S.gro S.tb).elim
    | ow d =>
      intro p B' H' x h1 h2 h3
      obtain ⟨g, t⟩ := S.backE x
      refine q p al B' H' g t ?_ (fun z => ?_) h2 h3
      · cases q0 : H0 p with
        | none => rfl
        | some o =>
          rw [less_of (S.not0 (by rw [q0]; simp))] at h1
          exact (S.gro.g p (by rw [q0]; simp) h1).elim
      · obtain ⟨_, o, h4⟩ := S.tb.get z
        rw [less_of (S.notT z), h4] at h1
        cases h1
theorem ts_lift {g : Tbl → Sto → Res} (h : ∀ al mu, PS X st (TSD (gd X al mu ex) W (g mu))) : PS X st (TST X.K X.mg ex W (sP g)) := ⟨fun pins s σ H Dn I q => by
  obtain ⟨al0, B0, H0, al, mu, B, ρ, S, q⟩ := q
  exact (h al mu).run pins s σ H Dn I ⟨_, _, _, _, S.pure, spost_lift S q⟩⟩
theorem tss_lift {g : Tbl → Sto → Res} (h : ∀ al mu, PSs X sts (TSD (gd X al mu ex) W (g mu))) : PSs X sts (TST X.K X.mg ex W (sP g)) := ⟨fun pins s σ H Dn I q => by
  obtain ⟨al0, B0, H0, al, mu, B, ρ, S, q⟩ := q
  exact (h al mu).run pins s σ H Dn I ⟨_, _, _, _, S.pure, spost_lift S q⟩⟩
end
end DL

namespace DL
open PySem PySem.Spec PyProof.Rows L2

/-! ### reading what may be changed: as it is now -/
section
variable {G : Gd} {B H : Hp}
theorem repf_lookup {f : Str} : ∀ {fs : List (Str × D)} {gs : List (Str × V)} {d : D}, RepF G B fs gs → fs.lookup f = some d → ∃ v, gs.lookup f = some v ∧ Rep G B d v
  | [], gs, d, r, h => by cases h
  | (g, e) :: fs, gs, d, r, h => by
    simp only [RepF] at r
    obtain ⟨v, t, rfl, r1, r2⟩ := r
    rw [List.lookup_cons] at h ⊢
    by_cases hb : (f == g) = true
    · rw [hb] at h ⊢
      cases h
      exact ⟨v, rfl, r1⟩
    · rw [Bool.not_eq_true] at hb
      rw [hb] at h ⊢
      exact repf_lookup r2 h
theorem repf_lookup0 {f : Str} : ∀ {fs : List (Str × D)} {gs : List (Str × V)}, RepF G B fs gs → fs.lookup f = none → gs.lookup f = none
  | [], gs, r, h => by simp only [RepF] at r; subst r; rfl
  | (g, e) :: fs, gs, r, h => by
    simp only [RepF] at r
    obtain ⟨v, t, rfl, r1, r2⟩ := r
    rw [List.lookup_cons] at h ⊢
    by_cases hb : (f == g) = true
    · rw [hb] at h; cases h
    · rw [Bool.not_eq_true] at hb
      rw [hb] at h ⊢
      exact repf_lookup0 r2 h
def putD (f : Str) (v : D) : List (Str × D) → List (Str × D)
  | [] => [(f, v)]
  | (g, x) :: r => if g = f then (g, v) :: r else (g, x) :: putD f v r
theorem repf_put {f : Str} {d : D} {v : V} (r : Rep G B d v) : ∀ {fs : List (Str × D)} {gs : List (Str × V)}, RepF G B fs gs → RepF G B (putD f d fs) (putF f v gs)
  | [], gs, h => by
    simp only [RepF] at h; subst h
    simp only [putD, putF, RepF]
    exact ⟨v, [], rfl, r, rfl⟩
  | (g, e) :: fs, gs, h => by
    simp only [RepF] at h
    obtain ⟨w, t, rfl, r1, r2⟩ := h
    simp only [putD, putF]
    by_cases q : g = f
    · rw [if_pos q, if_pos q]
      simp only [RepF]
      exact ⟨v, t, rfl, r, r2⟩
    · rw [if_neg q, if_neg q]
      simp only [RepF]
      exact ⟨w, _, rfl, r1, repf_put r r2⟩
theorem repf_len : ∀ {fs : List (Str × D)} {gs : List (Str × V)}, RepF G B fs gs → gs.length = fs.length
  | [], gs, h => by simp only [RepF] at h; subst h; rfl
  | (g, e) :: fs, gs, h => by
    simp only [RepF] at h
    obtain ⟨w, t, rfl, r1, r2⟩ := h
    rw [List.length_cons, List.length_cons, repf_len r2]
/-- the cell that a value names -/
def cellOf (mu : Tbl) : D → Option Cl
  | .hdl n => mu[n]?
  | _ => none
def objOf (mu : Tbl) (cn : Str) (d : D) : Option (List (Str × D)) := match cellOf mu d with
  | some (.obj c fs) => if c = cn then some fs else none
  | _ => none
def lstOf (mu : Tbl) (d : D) : Option (List D) := match cellOf mu d with
  | some (.lst ds) => some ds
  | _ => none
theorem cellOf_at {K : PySem.W.Frag} {mg : Str → Option Value} {al : List Addr} {mu : Tbl} {d : D} {v : V} {c : Cl} (t : TbOk ⟨K, mg, al, mu, ex⟩ B H) (r : Rep ⟨K, mg, al, mu, ex⟩ B d v) (h : cellOf mu d = some c) :
    ∃ n a, d = .hdl n ∧ v = .ref a ∧ al[n]? = some a ∧ mu[n]? = some c ∧ B a = none ∧ ClAt ⟨K, mg, al, mu, ex⟩ B H a c := by
  cases d with
  | hdl n =>
    simp only [Rep] at r
    obtain ⟨a, h1, rfl⟩ := r
    obtain ⟨h2, h3⟩ := t.at_ n a c h1 h
    exact ⟨n, a, rfl, rfl, h1, h, h2, h3⟩
  | _ => cases h
theorem objOf_cell {mu : Tbl} {cn : Str} {d : D} {fs : List (Str × D)} (h : objOf mu cn d = some fs) : cellOf mu d = some (.obj cn fs) := by
  unfold objOf at h
  split at h
  · rename_i c fs' e
    split at h
    · rename_i ec
      cases h
      rw [e, ec]
    · cases h
  · cases h
theorem lstOf_cell {mu : Tbl} {d : D} {fs : List D} (h : lstOf mu d = some fs) : cellOf mu d = some (.lst fs) := by
  unfold lstOf at h
  split at h
  · rename_i e
    cases h
    exact e
  · cases h
end
/-- what a class of the text must have -/
structure ClsT (K : PySem.W.Frag) (mg : Str → Option Value) (cn : Str) (fl : List Str) : Prop where
  ex : ∃ C, mg cn = some (.ref C) ∧ Cls K C ∧ ∀ f ∈ fl, NoAttr K C f
def eFld (mu : Tbl) (cn f : Str) (F : Sto → M D) : Sto → M D := fun ρ => (F ρ).bind fun d => opt ((objOf mu cn d).bind fun fs => fs.lookup f)
/-- a list that may be changed, read -/
def eCel (mu : Tbl) (F : Sto → M D) : Sto → M D := fun ρ => (F ρ).bind fun d => opt ((lstOf mu d).map D.lst)
section
variable {X : Cx} {W : WX} {e : Expr} {f cn : Str} {F : Sto → M D} {pos : Pos} {fl : List Str}
theorem de_fld (T : ClsT X.K X.mg cn fl) (he : PE X e (TD (gd X al mu ex) W F)) (hf : f ∈ fl := by decide +kernel) (hb : attributeBase e f X.env (eval e X.env) = eval e X.env := by rfl) : PE X (.Attribute e f pos) (TD (gd X al mu ex) W (eFld mu cn f F)) := (pe_fld he hb).wk fun σ H Q ⟨B0, H0, B, ρ, S, q⟩ => by
  unfold eFld at q
  refine td_i S (fun er h => by rw [h] at q; exact q) fun v H1 B1 d x r e => ?_
  rw [e] at q
  have q' : DPost (gd X al mu ex) W B H σ Q (opt ((objOf mu cn d).bind fun fs => fs.lookup f)) := q
  cases ho : objOf mu cn d with
  | none => rw [ho] at q'; exact q'.elim
  | some fs =>
    rw [ho] at q'
    cases hl : fs.lookup f with
    | none =>
      have q2 : DPost (gd X al mu ex) W B H σ Q (opt (fs.lookup f)) := q'
      rw [hl] at q2; exact q2.elim
    | some d' =>
      have q2 : DPost (gd X al mu ex) W B H σ Q (opt (fs.lookup f)) := q'
      rw [hl] at q2
      obtain ⟨n, a, rfl, rfl, h1, h2, h3, C, dx, gs, m, h4, rf⟩ := cellOf_at (S.tb.mono x) r (objOf_cell ho)
      obtain ⟨C', m', c, na⟩ := T.ex
      have m : X.mg cn = some (.ref C) := m
      rw [m'] at m
      cases m
      obtain ⟨w, h5, h6⟩ := repf_lookup rf hl
      exact ⟨a, C, dx, gs, w, rfl, h4, c, na f hf, h5, q2 w B1 H1 x h6⟩
theorem dr_cel (he : PE X e (TD (gd X al mu ex) W F)) : PE X e (TR (gd X al mu ex) W (eCel mu F)) := he.wk fun σ H Q ⟨B0, H0, B, ρ, S, q⟩ => by
  unfold eCel at q
  refine td_i S (fun er h => by rw [h] at q; exact q) fun v H1 B1 d x r e => ?_
  rw [e] at q
  have q' : RPost (gd X al mu ex) W B H σ Q (opt ((lstOf mu d).map D.lst)) := q
  cases ho : lstOf mu d with
  | none => rw [ho] at q'; exact q'.elim
  | some ds =>
    rw [ho] at q'
    obtain ⟨n, a, rfl, rfl, h1, h2, h3, xs, h4, rf⟩ := cellOf_at (S.tb.mono x) r (lstOf_cell ho)
    exact q' (.ref a) B1 H1 x (.inr ⟨a, rfl, h3, xs, h4, rf⟩)
end

/-! ### methods that change nothing -/
structure MtR (P : Program) (w : World) (K : PySem.W.Frag) (mg : Str → Option Value) (base : Heap) (k : Nat) (cn x : Str) (n : Nat) (m : Tbl → List D → M D) : Prop where
  ex : ∃ C f fd ps, mg cn = some (.ref C) ∧ Cls K C ∧ Meth K C x f ∧ FnOk P w K mg base (L2.CX P w) k f fd ps (spD K mg n m) ∧ Binds K fd ps []
structure MtF (P : Program) (w : World) (K : PySem.W.Frag) (mg : Str → Option Value) (base : Heap) (k : Nat) (cn x : Str) (n : Nat) (m : Tbl → List D → M D) : Prop where
  ex : ∃ C f fd ps, mg cn = some (.ref C) ∧ Cls K C ∧ Meth K C x f ∧ FnOk P w K mg base (L2.CX P w) k f fd ps (spF K mg n m) ∧ Binds K fd ps []
def canM (mu : Tbl) (cn x : Str) (d : D) : Bool := match objOf mu cn d with
  | some fs => (fs.lookup x).isNone
  | none => false
def eMt (mu : Tbl) (cn x : Str) (m : List D → M D) (o : Sto → M D) (a : Sto → M (List D)) : Sto → M D := fun ρ => (o ρ).bind fun d => if canM mu cn x d then (a ρ).bind fun ds => m (d :: ds) else .error .stuck
theorem canM_at {K : PySem.W.Frag} {mg : Str → Option Value} {al : List Addr} {mu : Tbl} {B H : Hp} {d : D} {v : V} {cn x : Str} {C : Addr} (t : TbOk ⟨K, mg, al, mu, ex⟩ B H) (r : Rep ⟨K, mg, al, mu, ex⟩ B d v) (hm : mg cn = some (.ref C)) (h : canM mu cn x d = true) :
    ∃ a dx gs, v = .ref a ∧ H a = some (.ins C dx gs) ∧ gs.lookup x = none := by
  unfold canM at h
  cases ho : objOf mu cn d with
  | none => rw [ho] at h; cases h
  | some fs =>
    rw [ho] at h
    obtain ⟨n, a, rfl, rfl, h1, h2, h3, C', dx, gs, m, h4, rf⟩ := cellOf_at t r (objOf_cell ho)
    have m : mg cn = some (.ref C') := m
    rw [hm] at m
    cases m
    refine ⟨a, dx, gs, rfl, h4, repf_lookup0 rf ?_⟩
    cases hl : fs.lookup x with
    | none => rfl
    | some d => simp [hl] at h
section
variable {X : Cx} {W : WX} {x cn : Str} {p pos apos : Pos} {o e : Expr} {es : List Expr} {fo : Sto → M D} {f : Sto → M (List D)} {k n : Nat} {m : Tbl → List D → M D}
theorem meth_go {K' : Sp} {C fa : Addr} {fd : FuncData} {ps : List Str} {pl : Sem Bool} {σ : L2.St} {H : Hp} {s : Shared} {pins : List (Addr × Obj)} {Q : VK} {to : TE} {t : TA} (c : Cls X.K C) (hm : Meth X.K C x fa) (F : FnOk X.prog X.w X.K X.mg X.base (L2.CX X.prog X.w) k fa fd ps K') (hr : Room k X.A) (hb : Binds X.K fd ps []) (tk : Takes X W)
    (ho : PE X o to) (ha : PA X (e :: es) t) (I : Inv X pins σ H s) (q : to σ H fun x1 H1 => ∃ a dx gs, x1 = .ref a ∧ H1 a = some (.ins C dx gs) ∧ gs.lookup x = none ∧ t σ H1 fun vs H2 => K' (x1 :: vs) H2 Q (WE W σ))
    (hst : starEach (e :: es) X.env = (false, eval e X.env) :: starEach es X.env) (hpl : (backTo pos (starEach es X.env)).any (·.1) = false)
    (ht : eval (.Call (.Attribute o x apos) (e :: es) [] pos) X.env = (do
      let ov ← eval o X.env
      standAt apos.atName
      let (f, first) ← holding [ov] (getMethod ov x pl)
      callWith pos f first (backTo pos (starEach (e :: es) X.env)) (backToKw pos (keywordEach [] X.env)))) :
    wpAny (model X.prog X.w) X.A (eval (.Call (.Attribute o x apos) (e :: es) [] pos) X.env) (EP X pins σ Q) X.xe s := by
  refine PySem.W.methodCall_KW (pl := pl) (thn (ho.run pins s σ H _ I q) fun u s1 ⟨x1, H1, I1, rx, a, dx, gs, ex, ea, l, q1⟩ => ?_) ht
  subst ex
  obtain rfl : u = Value.ref a := rx
  refine getmeth_ok I1 ea c hm l ?_
  refine PySem.W.callWith_K (first := [.ref a]) (h₀ := X.base) I.ok.mod.kin hm.kp (thn (ha.run pos pins s1 σ H1 _ I1 q1) fun us s2 ⟨vs, H2, I2, r, q2⟩ => ⟨I2.kIn, ?_⟩) hst hpl
  exact run_fnS (us := .ref a :: us) (vs := .ref a :: vs) F hr hb (passAt tk σ) I2 (.cons rfl r) q2
theorem meth_go0 {K' : Sp} {C fa : Addr} {fd : FuncData} {ps : List Str} {pl : Sem Bool} {σ : L2.St} {H : Hp} {s : Shared} {pins : List (Addr × Obj)} {Q : VK} {to : TE} (c : Cls X.K C) (hm : Meth X.K C x fa) (F : FnOk X.prog X.w X.K X.mg X.base (L2.CX X.prog X.w) k fa fd ps K') (hr : Room k X.A) (hb : Binds X.K fd ps []) (tk : Takes X W)
    (ho : PE X o to) (I : Inv X pins σ H s) (q : to σ H fun x1 H1 => ∃ a dx gs, x1 = .ref a ∧ H1 a = some (.ins C dx gs) ∧ gs.lookup x = none ∧ K' [x1] H1 Q (WE W σ))
    (ht : eval (.Call (.Attribute o x apos) [] [] pos) X.env = (do
      let ov ← eval o X.env
      standAt apos.atName
      let (f, first) ← holding [ov] (getMethod ov x pl)
      callWith pos f first (backTo pos (starEach [] X.env)) (backToKw pos (keywordEach [] X.env)))) :
    wpAny (model X.prog X.w) X.A (eval (.Call (.Attribute o x apos) [] [] pos) X.env) (EP X pins σ Q) X.xe s := by
  refine PySem.W.methodCall_KW (pl := pl) (thn (ho.run pins s σ H _ I q) fun u s1 ⟨x1, H1, I1, rx, a, dx, gs, ex, ea, l, q1⟩ => ?_) ht
  subst ex
  obtain rfl : u = Value.ref a := rx
  refine getmeth_ok I1 ea c hm l ?_
  exact PySem.W.callWith_K0 (first := [.ref a]) I1.kIn hm.kp (run_fnS (us := [.ref a]) (vs := [.ref a]) F hr hb (passAt tk σ) I1 (.cons rfl .nil) q1)
theorem de_mt {pl : Sem Bool} (F : MtR X.prog X.w X.K X.mg X.base k cn x (n + 1) m) (hr : Room k X.A) (tk : Takes X W) (ho : PE X o (TD (gd X al mu ex) W fo)) (ha : PA X (e :: es) (TAD (gd X al mu ex) W f)) (hl : LenA f n := by repeat (first | exact len_nil | refine len_cons ?_))
    (hst : starEach (e :: es) X.env = (false, eval e X.env) :: starEach es X.env := by rfl) (hpl : (backTo pos (starEach es X.env)).any (·.1) = false := by rfl)
    (ht : eval (.Call (.Attribute o x apos) (e :: es) [] pos) X.env = (do
      let ov ← eval o X.env
      standAt apos.atName
      let (f, first) ← holding [ov] (getMethod ov x pl)
      callWith pos f first (backTo pos (starEach (e :: es) X.env)) (backToKw pos (keywordEach [] X.env))) := by rfl) :
    PE X (.Call (.Attribute o x apos) (e :: es) [] pos) (TD (gd X al mu ex) W (eMt mu cn x (m mu) fo f)) := by
  obtain ⟨C, fa, fd, ps, hC, c, hm, F, hb⟩ := F.ex
  refine ⟨fun pins s σ H Q I ⟨B0, H0, B, ρ, S, q⟩ => meth_go c hm F hr hb tk ho ha I ?_ hst hpl ht⟩
  unfold eMt at q
  refine td_i S (fun er h => by rw [h] at q; exact q) fun v H1 B1 d x1 r1 e1 => ?_
  rw [e1] at q
  have q1 : DPost (gd X al mu ex) W B H σ Q (if canM mu cn x d then (f ρ).bind fun ds => m mu (d :: ds) else .error .stuck) := q
  split at q1
  · rename_i hc
    obtain ⟨a, dx, gs, rfl, h1, h2⟩ := canM_at (S.tb.mono x1) r1 hC hc
    refine ⟨a, dx, gs, rfl, h1, h2, tad_i (S.mono x1) (fun er h => ?_) fun vs H2 B2 ds x2 r2 e2 => ?_⟩
    · rw [h] at q1; exact ErOk.mono q1 x1
    · rw [e2] at q1
      have x3 := x1.trans x2
      refine ⟨al, mu, ex, B2, d :: ds, by rw [List.length_cons, hl ρ ds e2], x2.i', S.tb.mono x3, reps_cons (rep_mono x2.b _ _ r1) r2, ?_⟩
      have q2 : DPost (gd X al mu ex) W B H σ Q (m mu (d :: ds)) := q1
      cases hm : m mu (d :: ds) with
      | ok d => rw [hm] at q2; exact fun v B' H' x4 r4 => q2 v B' H' (x3.trans x4) r4
      | error er =>
        rw [hm] at q2
        have q3 := ErOk.mono q2 x3
        cases er with
        | stuck => exact q3
        | exc c a => exact q3
  · exact q1.elim
theorem de_mt0 {pl : Sem Bool} (F : MtR X.prog X.w X.K X.mg X.base k cn x 1 m) (hr : Room k X.A) (tk : Takes X W) (ho : PE X o (TD (gd X al mu ex) W fo))
    (ht : eval (.Call (.Attribute o x apos) [] [] pos) X.env = (do
      let ov ← eval o X.env
      standAt apos.atName
      let (f, first) ← holding [ov] (getMethod ov x pl)
      callWith pos f first (backTo pos (starEach [] X.env)) (backToKw pos (keywordEach [] X.env))) := by rfl) :
    PE X (.Call (.Attribute o x apos) [] [] pos) (TD (gd X al mu ex) W (eMt mu cn x (m mu) fo aNil)) := by
  obtain ⟨C, fa, fd, ps, hC, c, hm, F, hb⟩ := F.ex
  refine ⟨fun pins s σ H Q I ⟨B0, H0, B, ρ, S, q⟩ => meth_go0 c hm F hr hb tk ho I ?_ ht⟩
  unfold eMt at q
  refine td_i S (fun er h => by rw [h] at q; exact q) fun v H1 B1 d x1 r1 e1 => ?_
  rw [e1] at q
  have q1 : DPost (gd X al mu ex) W B H σ Q (if canM mu cn x d then m mu [d] else .error .stuck) := q
  split at q1
  · rename_i hc
    obtain ⟨a, dx, gs, rfl, h1, h2⟩ := canM_at (S.tb.mono x1) r1 hC hc
    refine ⟨a, dx, gs, rfl, h1, h2, al, mu, ex, B1, [d], rfl, x1.i', S.tb.mono x1, reps_one r1, ?_⟩
    cases hm : m mu [d] with
    | ok d => rw [hm] at q1; exact fun v B' H' x4 r4 => q1 v B' H' (x1.trans x4) r4
    | error er =>
      rw [hm] at q1
      have q3 := ErOk.mono q1 x1
      cases er with
      | stuck => exact q3
      | exc c a => exact q3
  · exact q1.elim
theorem df_mt0 {pl : Sem Bool} (F : MtF X.prog X.w X.K X.mg X.base k cn x 1 m) (hr : Room k X.A) (tk : Takes X W) (ho : PE X o (TD (gd X al mu ex) W fo))
    (ht : eval (.Call (.Attribute o x apos) [] [] pos) X.env = (do
      let ov ← eval o X.env
      standAt apos.atName
      let (f, first) ← holding [ov] (getMethod ov x pl)
      callWith pos f first (backTo pos (starEach [] X.env)) (backToKw pos (keywordEach [] X.env))) := by rfl) :
    PE X (.Call (.Attribute o x apos) [] [] pos) (TF (gd X al mu ex) W (eMt mu cn x (m mu) fo aNil)) := by
  obtain ⟨C, fa, fd, ps, hC, c, hm, F, hb⟩ := F.ex
  refine ⟨fun pins s σ H Q I ⟨B0, H0, B, ρ, S, q⟩ => meth_go0 c hm F hr hb tk ho I ?_ ht⟩
  unfold eMt at q
  refine td_i S (fun er h => by rw [h] at q; exact q) fun v H1 B1 d x1 r1 e1 => ?_
  rw [e1] at q
  have q1 : FPost (gd X al mu ex) W B H σ Q (if canM mu cn x d then m mu [d] else .error .stuck) := q
  split at q1
  · rename_i hc
    obtain ⟨a, dx, gs, rfl, h1, h2⟩ := canM_at (S.tb.mono x1) r1 hC hc
    refine ⟨a, dx, gs, rfl, h1, h2, al, mu, ex, B1, [d], rfl, x1.i', S.tb.mono x1, reps_one r1, ?_⟩
    cases hm : m mu [d] with
    | ok d => rw [hm] at q1; exact fun v B' H' x4 g1 g2 g3 => q1 v B' H' (x1.trans x4) (x1.fresh g1) g2 g3
    | error er =>
      rw [hm] at q1
      have q3 := ErOk.mono q1 x1
      cases er with
      | stuck => exact q3
      | exc c a => exact q3
  · exact q1.elim
end
end DL

namespace DL
open PySem PySem.Spec PyProof.Rows L2

/-! ### a cell changes; a cell is made -/
section
variable {K : PySem.W.Frag} {mg : Str → Option Value} {al al0 : List Addr} {mu : Tbl} {B H B0 H0 : Hp} {σ : L2.St} {ρ : Sto}
theorem ClAt.tab {mu' : Tbl} {c : Cl} {a : Addr} (h : ClAt ⟨K, mg, al, mu, ex⟩ B H a c) : ClAt ⟨K, mg, al, mu', ex⟩ B H a c := by
  cases c with
  | obj c fs => obtain ⟨C, dx, gs, m, q, r⟩ := h; exact ⟨C, dx, gs, m, q, repf_grow (fun _ _ h => h) _ _ r⟩
  | lst ds => obtain ⟨xs, q, r⟩ := h; exact ⟨xs, q, reps_grow (fun _ _ h => h) _ _ r⟩
theorem TbOk.put {n : Nat} {a : Addr} {o : HO} {c : Cl} (t : TbOk ⟨K, mg, al, mu, ex⟩ B H) (ha : al[n]? = some a) (hc : ClAt ⟨K, mg, al, mu, ex⟩ B (upd H a o) a c) : TbOk ⟨K, mg, al, mu.set n c, ex⟩ B (upd H a o) := by
  refine ⟨by show al.length = (mu.set n c).length; rw [List.length_set]; exact t.len, t.nd, fun m a' c' h1 h2 => ?_⟩
  have h1 : al[m]? = some a' := h1
  have h2 : (mu.set n c)[m]? = some c' := h2
  have bn : B a' = none := (t.get (List.mem_of_getElem? h1)).1
  by_cases q : n = m
  · subst q
    rw [ha] at h1
    cases h1
    rw [List.getElem?_set_self (by have tl : al.length = mu.length := t.len; have := (List.getElem?_eq_some_iff.mp ha).1; show n < mu.length; omega)] at h2
    cases h2
    exact ⟨bn, hc.tab⟩
  · rw [List.getElem?_set_ne q] at h2
    obtain ⟨g1, g2⟩ := t.at_ m a' c' h1 h2
    have na : a' ≠ a := fun z => by subst z; exact q (t.nd n m a' ha h1)
    exact ⟨g1, (g2.mono (Same.refl _) fun o e => by rw [upd_ne na]; exact e).tab⟩
theorem Gro.put {a : Addr} {o : HO} (s : Same B H) (ha : a ∈ al) (hb : B a = none) (hh : H a ≠ none) : Gro al B H al B (upd H a o) := by
  refine ⟨⟨[], by simp, fun a h => by cases h⟩, s, Same.refl _, fun b u e => ?_, fun b u e nb => ?_, fun b e => ?_, fun _ _ => rfl⟩
  · rw [upd_ne (ne_of_none e hb)]; exact s b u e
  · rw [upd_ne fun z => nb (by rw [z]; exact ha)]; exact e
  · by_cases z : b = a
    · subst z; rw [upd_same]; simp
    · rw [upd_ne z]; exact e
theorem al_app {a : Addr} {m : Nat} {a' : Addr} (h : (al ++ [a])[m]? = some a') : al[m]? = some a' ∨ (m = al.length ∧ a' = a) := by
  by_cases q : m < al.length
  · rw [List.getElem?_append_left q] at h; exact .inl h
  · have ml := (List.getElem?_eq_some_iff.mp h).1
    rw [List.length_append] at ml
    simp at ml
    have e : m = al.length := by omega
    subst e
    rw [List.getElem?_append_right (Nat.le_refl _), Nat.sub_self] at h
    cases h
    exact .inr ⟨rfl, rfl⟩
theorem al_gr (a : Addr) (n : Nat) (b : Addr) (h : al[n]? = some b) : (al ++ [a])[n]? = some b := by rw [List.getElem?_append_left (List.getElem?_eq_some_iff.mp h).1, h]
theorem TbOk.new {a : Addr} {c : Cl} (t : TbOk ⟨K, mg, al, mu, ex⟩ B H) (na : a ∉ al) (hb : B a = none) (hc : ClAt ⟨K, mg, al ++ [a], mu ++ [c], ex⟩ B H a c) : TbOk ⟨K, mg, al ++ [a], mu ++ [c], ex⟩ B H := by
  have len : al.length = mu.length := t.len
  refine ⟨by show (al ++ [a]).length = (mu ++ [c]).length; simp [len], fun i j b h1 h2 => ?_, fun m a' c' h1 h2 => ?_⟩
  · rcases al_app h1 with g1 | ⟨e1, e1'⟩
    · rcases al_app h2 with g2 | ⟨e2, e2'⟩
      · exact t.nd i j b g1 g2
      · subst e2'; exact (na (List.mem_of_getElem? g1)).elim
    · rcases al_app h2 with g2 | ⟨e2, e2'⟩
      · subst e1'; exact (na (List.mem_of_getElem? g2)).elim
      · rw [e1, e2]
  · have h2 : (mu ++ [c])[m]? = some c' := h2
    rcases al_app h1 with g1 | ⟨e1, e1'⟩
    · rw [List.getElem?_append_left (by have := (List.getElem?_eq_some_iff.mp g1).1; omega)] at h2
      obtain ⟨g3, g5⟩ := t.at_ m a' c' g1 h2
      refine ⟨g3, ?_⟩
      cases c' with
      | obj c fs => obtain ⟨C, dx, gs, m, q, r⟩ := g5; exact ⟨C, dx, gs, m, q, repf_grow (al_gr a) _ _ r⟩
      | lst ds => obtain ⟨xs, q, r⟩ := g5; exact ⟨xs, q, reps_grow (al_gr a) _ _ r⟩
    · subst e1'
      rw [e1, List.getElem?_append_right (by omega), len, Nat.sub_self] at h2
      cases h2
      exact ⟨hb, hc⟩
theorem Gro.new {a : Addr} {H' : Hp} (i : Same B H) (hp : H a = none) (s : Same H H') : Gro al B H (al ++ [a]) B H' :=
  ⟨⟨[a], rfl, fun b h => by rw [List.mem_singleton.mp h]; exact hp⟩, i, Same.refl _, i.trans s, fun b o h _ => s b o h, fun b h => by
    cases q : H b with
    | none => exact (h q).elim
    | some o => rw [s b o q]; simp, fun _ _ => rfl⟩
end

/-! ### expressions that change something -/
def bindT (F : TF1) (k : D → Tbl → Sto → M D × Tbl) : TF1 := fun mu ρ => match F mu ρ with
  | (.ok d, mu') => k d mu' ρ
  | (.error e, mu') => (.error e, mu')
/-- a new list that several may know -/
def eNewL (f : Tbl → Sto → M D) : TF1 := fun mu ρ => match f mu ρ with
  | .ok (.lst ds) => (.ok (.hdl mu.length), mu ++ [.lst ds])
  | .ok _ => (.error .stuck, mu)
  | .error e => (.error e, mu)
def eBinT (g : D → D → Option D) (F : TF1) (f2 : Tbl → Sto → M D) : TF1 := bindT F fun a mu ρ => ((f2 mu ρ).bind fun b => opt (g a b), mu)
def eBinR (g : D → D → Option D) (f1 : Tbl → Sto → M D) (F : TF1) : TF1 := fun mu ρ => match f1 mu ρ with
  | .error e => (.error e, mu)
  | .ok a => bindT F (fun b mu ρ => (opt (g a b), mu)) mu ρ
section
variable {X : Cx} {W : WX} {e a b : Expr} {F : TF1} {f f1 f2 : Tbl → Sto → M D} {pos : Pos}
theorem te_newL (h : ∀ al mu, PE X e (TF (gd X al mu ex) W (f mu))) : PE X e (TDT X.K X.mg ex W (eNewL f)) := ⟨fun pins s σ H Q I q => by
  obtain ⟨al0, B0, H0, al, mu, B, ρ, S, q⟩ := q
  refine (h al mu).run pins s σ H Q I (tf_i S.pure (fun er he => ?_) fun p H1 B1 d x h1 h2 h3 e1 => ?_)
  · unfold eNewL at q; rw [he] at q; exact q al B H (.refl S.gro.i') S.tb
  · unfold eNewL at q
    rw [e1] at q
    cases d with
    | lst ds =>
      have g0 : Gro al B H (al ++ [p]) B1 H1 := by
        refine ⟨⟨[p], rfl, fun b h => by rw [List.mem_singleton.mp h]; exact h1⟩, x.i, x.b, x.i', fun b o h _ => x.h b o h, fun b h => ?_, x.n⟩
        cases q : H b with
        | none => exact (h q).elim
        | some o => rw [x.h b o q]; simp
      obtain ⟨xs, h4, rs⟩ := h3
      have t1 := S.tb.mono x
      have len : al.length = mu.length := S.tb.len
      have t2 : TbOk ⟨X.K, X.mg, al ++ [p], mu ++ [.lst ds], ex⟩ B1 H1 := t1.new (S.tb.out h1) h2 ⟨xs, h4, reps_grow (al_gr p) _ _ rs⟩
      refine q _ (al ++ [p]) B1 H1 g0 t2 ?_
      simp only [Rep]
      exact ⟨p, by rw [List.getElem?_append_right (by omega), len, Nat.sub_self]; rfl, rfl⟩
    | _ => exact (q al B H (.refl S.gro.i') S.tb).elim⟩
/-- the right part changes nothing -/
theorem bin_trT {r : R2} {g : D → D → Option D} {K : PySem.W.Frag} {mg : Str → Option Value} (hg : ∀ (al : List Addr) (mu : Tbl), OpI (⟨K, mg, al, mu, ex⟩ : Gd) r g) : ∀ σ H Q, TDT K mg ex W (eBinT g F f2) σ H Q → tOp r (TDT K mg ex W F) (fun σ H Q => ∃ al mu, TR ⟨K, mg, al, mu, ex⟩ W (f2 mu) σ H Q) σ H Q := fun σ H Q ⟨al0, B0, H0, al, mu, B, ρ, S, q⟩ => by
  unfold eBinT bindT at q
  refine tdt_i S (fun er mu' h => by rw [h] at q; exact q) fun v al1 mu1 B1 H1 d x t r1 e1 => ?_
  rw [e1] at q
  have q1 : DPostT K mg ex W al B H σ Q ((f2 mu1 ρ).bind fun b => opt (g d b), mu1) := q
  have S1 := S.grow x t
  refine ⟨al1, mu1, tr_i S1.pure (fun er h => ?_) fun w H2 B2 d2 x2 r2 e2 => ?_⟩
  · rw [h] at q1; exact q1 al1 B1 H1 x t
  · rw [e2] at q1
    have q2 : DPostT K mg ex W al B H σ Q (opt (g d d2), mu1) := q1
    cases hz : g d d2 with
    | none => rw [hz] at q2; exact (q2 al1 B1 H1 x t).elim
    | some z =>
      rw [hz] at q2
      exact hg _ _ B2 H2 d d2 v w z Q x2.i' (.inl (rep_mono x2.b _ _ r1)) r2 hz fun u B' H' x3 r3 => q2 u al1 B' H' (x.trans (.of (x2.trans x3))) (t.mono (x2.trans x3)) r3
theorem pe_ex {ι κ : Type} {t : ι → κ → TE} (h : ∀ i k, PE X e (t i k)) : PE X e (fun σ H Q => ∃ i k, t i k σ H Q) := ⟨fun pins s σ H Q I ⟨i, k, q⟩ => (h i k).run pins s σ H Q I q⟩
theorem te_bin {op : Operator} {r : R2} {g : D → D → Option D} (hg : ∀ (al : List Addr) (mu : Tbl), OpI (gd X al mu ex) r g) (ho : OpR X (binaryOp op) r) (ha : PE X a (TDT X.K X.mg ex W F)) (hb : ∀ al mu, PE X b (TR (gd X al mu ex) W (f2 mu))) : PE X (.BinOp a op b pos) (TDT X.K X.mg ex W (eBinT g F f2)) :=
  (pe_op ho ha (pe_ex hb)).wk (bin_trT hg)
theorem te_cmp {op : CmpOp} {r : R2} {g : D → D → Option D} (hg : ∀ (al : List Addr) (mu : Tbl), OpI (gd X al mu ex) r g) (ho : OpR X (compareOp op) r) (ha : PE X a (TDT X.K X.mg ex W F)) (hb : ∀ al mu, PE X b (TR (gd X al mu ex) W (f2 mu))) (hm : behindInMarks op b = false := by first | exact nomark _ | rfl) : PE X (.Compare a [op] [b] pos) (TDT X.K X.mg ex W (eBinT g F f2)) :=
  (pe_cmpR ho ha (pe_ex hb) hm).wk (bin_trT hg)
end

/-! ### tests -/
def BPostT (K : PySem.W.Frag) (mg : Str → Option Value) (ex : Option XV) (W : WX) (al : List Addr) (B H : Hp) (σ : L2.St) (Q : Bool → Hp → Prop) : M Bool × Tbl → Prop
  | (.ok b, mu') => ∀ al' B' H', Gro al B H al' B' H' → TbOk ⟨K, mg, al', mu', ex⟩ B' H' → Q b H'
  | (.error e, mu') => ∀ al' B' H', Gro al B H al' B' H' → TbOk ⟨K, mg, al', mu', ex⟩ B' H' → ErOk ⟨K, mg, al', mu', ex⟩ W B' H' σ e
def TBT (K : PySem.W.Frag) (mg : Str → Option Value) (ex : Option XV) (W : WX) (c : Tbl → Sto → M Bool × Tbl) : TT := fun σ H Q => ∃ al0 B0 H0 al mu B ρ, StT K mg ex al0 B0 H0 al mu B H σ ρ ∧ BPostT K mg ex W al B H σ Q (c mu ρ)
theorem tbt_i {K : PySem.W.Frag} {mg : Str → Option Value} {W : WX} {al0 al : List Addr} {mu : Tbl} {B0 H0 B H : Hp} {σ : L2.St} {ρ : Sto} {c : Tbl → Sto → M Bool × Tbl} {Q : Bool → Hp → Prop} (S : StT K mg ex al0 B0 H0 al mu B H σ ρ)
    (hE : ∀ e mu', c mu ρ = (.error e, mu') → ∀ al' B' H', Gro al B H al' B' H' → TbOk ⟨K, mg, al', mu', ex⟩ B' H' → ErOk ⟨K, mg, al', mu', ex⟩ W B' H' σ e)
    (k : ∀ b al1 mu1 B1 H1, Gro al B H al1 B1 H1 → TbOk ⟨K, mg, al1, mu1, ex⟩ B1 H1 → c mu ρ = (.ok b, mu1) → Q b H1) : TBT K mg ex W c σ H Q := by
  refine ⟨al0, B0, H0, al, mu, B, ρ, S, ?_⟩
  cases hf : c mu ρ with
  | mk r mu1 =>
    cases r with
    | ok d => exact fun al' B' H' x t => k d al' mu1 B' H' x t hf
    | error e => exact hE e mu1 hf
def bP (c : Tbl → Sto → M Bool) : Tbl → Sto → M Bool × Tbl := fun mu ρ => (c mu ρ, mu)
def bVT (F : TF1) : Tbl → Sto → M Bool × Tbl := fun mu ρ => match F mu ρ with
  | (.ok (.bl k), mu') => (.ok k, mu')
  | (.ok _, mu') => (.error .stuck, mu')
  | (.error e, mu') => (.error e, mu')
def bNotT (c : Tbl → Sto → M Bool × Tbl) : Tbl → Sto → M Bool × Tbl := fun mu ρ => match c mu ρ with
  | (.ok k, mu') => (.ok (!k), mu')
  | (.error e, mu') => (.error e, mu')
def bAndT (c c' : Tbl → Sto → M Bool × Tbl) : Tbl → Sto → M Bool × Tbl := fun mu ρ => match c mu ρ with
  | (.ok true, mu') => c' mu' ρ
  | (.ok false, mu') => (.ok false, mu')
  | (.error e, mu') => (.error e, mu')
def bOrT (c c' : Tbl → Sto → M Bool × Tbl) : Tbl → Sto → M Bool × Tbl := fun mu ρ => match c mu ρ with
  | (.ok true, mu') => (.ok true, mu')
  | (.ok false, mu') => c' mu' ρ
  | (.error e, mu') => (.error e, mu')
theorem td_of_bT {K : PySem.W.Frag} {mg : Str → Option Value} {W : WX} {F : TF1} {σ : L2.St} {H : Hp} {Q : Bool → Hp → Prop} (h : TBT K mg ex W (bVT F) σ H Q) : TDT K mg ex W F σ H (fun x H' => ∃ k, x = .bl k ∧ Q k H') := by
  obtain ⟨al0, B0, H0, al, mu, B, ρ, S, q⟩ := h
  unfold bVT at q
  refine tdt_i S (fun er mu' he => by rw [he] at q; exact q) fun v al1 mu1 B1 H1 d x t r e => ?_
  rw [e] at q
  cases d with
  | bl k =>
    simp only [Rep] at r
    exact ⟨k, r, q al1 B1 H1 x t⟩
  | _ => exact (q al1 B1 H1 x t).elim
section
variable {X : Cx} {W : WX} {e a b : Expr} {rest : List Expr} {F : TF1} {f f1 f2 : Tbl → Sto → M D} {c c' : Tbl → Sto → M Bool × Tbl} {pos : Pos}
theorem tb_lift {c : Tbl → Sto → M Bool} (h : ∀ al mu, PT X e (TB (gd X al mu ex) W (c mu))) : PT X e (TBT X.K X.mg ex W (bP c)) := ⟨fun pins s σ H Q I q => by
  obtain ⟨al0, B0, H0, al, mu, B, ρ, S, q⟩ := q
  refine (h al mu).run pins s σ H Q I ⟨_, _, _, _, S.pure, ?_⟩
  unfold bP at q
  cases hf : c mu ρ with
  | ok d => rw [hf] at q; exact fun B' H' x => q al B' H' (.of x) (S.tb.mono x)
  | error er => rw [hf] at q; exact q al B H (.refl S.gro.i') S.tb⟩
theorem tb_val (h : PE X e (TDT X.K X.mg ex W F)) (he : ∀ whole, isTrue e X.env whole = (do let v ← whole; standAt e.pos; holding [v] (truthy v)) := by intro _; rfl) : PT X e (TBT X.K X.mg ex W (bVT F)) :=
  (pt_val h he).wk fun σ H Q q => td_of_bT q
theorem tb_cmp {op : CmpOp} {r : R2} {g : D → D → Option D} (hg : ∀ (al : List Addr) (mu : Tbl), OpI (gd X al mu ex) r g) (ho : OpR X (compareOp op) r) (ha : PE X a (TDT X.K X.mg ex W F)) (hb : ∀ al mu, PE X b (TR (gd X al mu ex) W (f2 mu))) (hm : behindInMarks op b = false := by first | exact nomark _ | rfl) : PT X (.Compare a [op] [b] pos) (TBT X.K X.mg ex W (bVT (eBinT g F f2))) :=
  (pt_cmpR ho ha (pe_ex hb) hm).wk fun σ H Q h => bin_trT hg σ H _ (td_of_bT h)
theorem tb_not (h : PT X a (TBT X.K X.mg ex W c)) : PT X (.UnaryOp .Not a pos) (TBT X.K X.mg ex W (bNotT c)) := (pt_not h).wk fun σ H Q ⟨al0, B0, H0, al, mu, B, ρ, S, q⟩ => by
  unfold bNotT at q
  refine tbt_i S (fun er mu' he => by rw [he] at q; exact q) fun b al1 mu1 B1 H1 x t e => ?_
  rw [e] at q
  exact q al1 B1 H1 x t
theorem bpost_grow {K : PySem.W.Frag} {mg : Str → Option Value} {al al1 : List Addr} {B H B1 H1 : Hp} {σ : L2.St} {Q : Bool → Hp → Prop} {r : M Bool × Tbl} (x : Gro al B H al1 B1 H1) (q : BPostT K mg ex W al B H σ Q r) : BPostT K mg ex W al1 B1 H1 σ Q r := by
  obtain ⟨r, mu⟩ := r
  cases r with
  | ok b => exact fun al' B' H' y t => q al' B' H' (x.trans y) t
  | error e => exact fun al' B' H' y t => q al' B' H' (x.trans y) t
theorem wt_and (h1 : PT X a (TBT X.K X.mg ex W c)) (h2 : PW X (.BoolOp .And (b :: rest) pos) (TBT X.K X.mg ex W c')) : PW X (.BoolOp .And (a :: b :: rest) pos) (TBT X.K X.mg ex W (bAndT c c')) := ⟨fun wh pins s σ H Q I h => (pw_and h1 h2).run wh pins s σ H Q I (by
  obtain ⟨al0, B0, H0, al, mu, B, ρ, S, q⟩ := h
  unfold bAndT at q
  refine tbt_i S (fun er mu' he => by rw [he] at q; exact q) fun k al1 mu1 B1 H1 x t e => ?_
  rw [e] at q
  cases k with
  | true => exact ⟨al0, B0, H0, al1, mu1, B1, ρ, S.grow x t, bpost_grow x q⟩
  | false => exact q al1 B1 H1 x t)⟩
theorem wt_or (h1 : PT X a (TBT X.K X.mg ex W c)) (h2 : PW X (.BoolOp .Or (b :: rest) pos) (TBT X.K X.mg ex W c')) : PW X (.BoolOp .Or (a :: b :: rest) pos) (TBT X.K X.mg ex W (bOrT c c')) := ⟨fun wh pins s σ H Q I h => (pw_or h1 h2).run wh pins s σ H Q I (by
  obtain ⟨al0, B0, H0, al, mu, B, ρ, S, q⟩ := h
  unfold bOrT at q
  refine tbt_i S (fun er mu' he => by rw [he] at q; exact q) fun k al1 mu1 B1 H1 x t e => ?_
  rw [e] at q
  cases k with
  | false => exact ⟨al0, B0, H0, al1, mu1, B1, ρ, S.grow x t, bpost_grow x q⟩
  | true => exact q al1 B1 H1 x t)⟩
theorem wt_and1 (h1 : PT X a (TBT X.K X.mg ex W c)) : PW X (.BoolOp .And [a] pos) (TBT X.K X.mg ex W c) := pw_and1 h1
theorem wt_or1 (h1 : PT X a (TBT X.K X.mg ex W c)) : PW X (.BoolOp .Or [a] pos) (TBT X.K X.mg ex W c) := pw_or1 h1
end
end DL

namespace DL
open PySem PySem.Spec PyProof.Rows L2


/-! ### the ground laid anew -/
section
variable {K : PySem.W.Frag} {mg : Str → Option Value} {W : WX} {al al' al0 : List Addr} {mu mu' : Tbl} {B H B' H' B0 H0 : Hp} {σ σ' : L2.St} {ρ ρ' : Sto}
theorem StT.self (S : StT K mg ex al0 B0 H0 al mu B H σ ρ) : StT K mg ex al B (less H σ ρ) al mu B H σ ρ :=
  ⟨.of S.pure.ext, S.len, S.sh, S.pure.ow, S.ap, S.tb, S.xs⟩
theorem StT.low (S : StT K mg ex al0 B0 H0 al mu B H σ ρ) {p : Addr} (h : less H σ ρ p = none) : H0 p = none := by
  cases q : H0 p with
  | none => rfl
  | some o =>
    rw [less_of (S.not0 (by rw [q]; simp))] at h
    exact (S.gro.g p (by rw [q]; simp) h).elim
theorem StT.backG (S : StT K mg ex al0 B0 H0 al mu B H σ ρ) (y : Gro al B (less H σ ρ) al' B' H') : Gro al0 B0 H0 al' B' H' := by
  obtain ⟨ws, e1, n1⟩ := S.gro.nw
  obtain ⟨us, e2, n2⟩ := y.nw
  have there : ∀ a, H0 a ≠ none → less H σ ρ a = H a ∧ H a ≠ none := fun a h => ⟨less_of (S.not0 h), S.gro.g a h⟩
  refine ⟨⟨ws ++ us, by rw [e2, e1, List.append_assoc], fun a ha => ?_⟩, S.gro.i, S.gro.b.trans y.b, y.i', fun a o h na => ?_, fun a h => ?_, fun a h => ?_⟩
  · rcases List.mem_append.mp ha with ha | ha
    · exact n1 a ha
    · exact S.low (n2 a ha)
  · refine y.h a o ?_ fun z => ?_
    · rw [(there a (by rw [h]; simp)).1]
      exact S.gro.h a o h na
    · rw [e1] at z
      rcases List.mem_append.mp z with z | z
      · exact na z
      · rw [n1 a z] at h; cases h
  · obtain ⟨h1, h2⟩ := there a h
    exact y.g a (by rw [h1]; exact h2)
  · obtain ⟨h1, h2⟩ := there a h
    rw [y.n a (by rw [h1]; exact h2), S.gro.n a h]
theorem StT.backT (S : StT K mg ex al0 B0 H0 al mu B H σ ρ) (S' : StT K mg ex al B (less H σ ρ) al' mu' B' H' σ' ρ') : StT K mg ex al0 B0 H0 al' mu' B' H' σ' ρ' :=
  ⟨S.backG S'.gro, S'.len, S'.sh, fun i d h => by
    obtain ⟨p, h1, h2, h3, h4⟩ := S'.ow i d h
    exact ⟨p, h1, ⟨S.low h2.1, h2.2⟩, h3, h4⟩, S'.ap, S'.tb, S'.xs⟩
theorem SPostT.rebase {Dn : Ends} {r : Res × Tbl} (S : StT K mg ex al0 B0 H0 al mu B H σ ρ) (q : SPostT K mg ex W al0 B0 H0 Dn r) : SPostT K mg ex W al B (less H σ ρ) Dn r := by
  obtain ⟨r, mu1⟩ := r
  cases r with
  | nx ρ => exact fun σ1 al1 B1 H1 S1 => q σ1 al1 B1 H1 (S.backT S1)
  | bk ρ => exact fun σ1 al1 B1 H1 S1 => q σ1 al1 B1 H1 (S.backT S1)
  | ct ρ => exact fun σ1 al1 B1 H1 S1 => q σ1 al1 B1 H1 (S.backT S1)
  | er e ρ => exact fun σ1 al1 B1 H1 S1 => q σ1 al1 B1 H1 (S.backT S1)
  | rt s =>
    cases s with
    | sh d => exact fun v al1 B1 H1 g t r => q v al1 B1 H1 (S.backG g) t r
    | ow d => exact fun p al1 B1 H1 g t h1 h2 h3 h4 => q p al1 B1 H1 (S.backG g) t (S.low h1) h2 h3 h4
    | ex c o => exact fun al1 B1 H1 g t => q al1 B1 H1 (S.backG g) t
end

/-! ### statements that change something -/
abbrev TS1 := Tbl → Sto → Res × Tbl
def sSeqT (g h : TS1) : TS1 := fun mu ρ => match g mu ρ with
  | (.nx ρ', mu') => h mu' ρ'
  | r => r
def sNilT : TS1 := fun mu ρ => (.nx ρ, mu)
def sOnT (F : TF1) (k : D → TS1) : TS1 := fun mu ρ => match F mu ρ with
  | (.ok d, mu') => k d mu' ρ
  | (.error e, mu') => (.er e ρ, mu')
def sSetT (i : Nat) (F : TF1) : TS1 := sOnT F fun d mu ρ => (.nx (ρ.set i (some (.sh d))), mu)
def sExprT (F : TF1) : TS1 := sOnT F fun d mu ρ => (.nx ρ, mu)
def sRetT (F : TF1) : TS1 := sOnT F fun d mu ρ => (.rt (.sh d), mu)
def sUnpT (F : TF1) (b : D → Sto → Option Sto) : TS1 := sOnT F fun d mu ρ => match b d ρ with
  | some ρ' => (.nx ρ', mu)
  | none => (.er .stuck ρ, mu)
def sIfT (c : Tbl → Sto → M Bool × Tbl) (g h : TS1) : TS1 := fun mu ρ => match c mu ρ with
  | (.ok true, mu') => g mu' ρ
  | (.ok false, mu') => h mu' ρ
  | (.error e, mu') => (.er e ρ, mu')
def flT (b : D → Sto → Option Sto) (g : TS1) : List D → TS1
  | [], mu, ρ => (.nx ρ, mu)
  | x :: xs, mu, ρ => match b x ρ with
    | none => (.er .stuck ρ, mu)
    | some ρ1 => match g mu ρ1 with
      | (.nx ρ', mu') => flT b g xs mu' ρ'
      | (.ct ρ', mu') => flT b g xs mu' ρ'
      | (.bk ρ', mu') => (.nx ρ', mu')
      | r => r
def sForT (f : Tbl → Sto → M (List D)) (b : D → Sto → Option Sto) (g : TS1) : TS1 := fun mu ρ => match f mu ρ with
  | .ok ds => flT b g ds mu ρ
  | .error e => (.er e ρ, mu)
/-- o.f = e -/
def sFldT (cn f : Str) (o : Tbl → Sto → M D) (F : TF1) : TS1 := sOnT F fun d mu ρ => match o mu ρ with
  | .error e => (.er e ρ, mu)
  | .ok (.hdl n) => (match objOf mu cn (.hdl n) with
    | some fs => if fs.length < 1000 then (.nx ρ, mu.set n (.obj cn (putD f d fs))) else (.er .stuck ρ, mu)
    | none => (.er .stuck ρ, mu))
  | .ok _ => (.er .stuck ρ, mu)
/-- o.append(e), a list that several may know -/
def sAppC (o f : Tbl → Sto → M D) : TS1 := fun mu ρ => match o mu ρ with
  | .error e => (.er e ρ, mu)
  | .ok (.hdl n) => (match lstOf mu (.hdl n) with
    | none => (.er .stuck ρ, mu)
    | some ds => match f mu ρ with
      | .error e => (.er e ρ, mu)
      | .ok d => if lim ds.length then (.nx ρ, mu.set n (.lst (ds ++ [d]))) else (.er .stuck ρ, mu))
  | .ok _ => (.er .stuck ρ, mu)
/-- o.pop() -/
def ePopC (o : Tbl → Sto → M D) : TF1 := fun mu ρ => match o mu ρ with
  | .error e => (.error e, mu)
  | .ok (.hdl n) => (match lstOf mu (.hdl n) with
    | none => (.error .stuck, mu)
    | some ds => match ds[ds.length - 1]? with
      | some d => (.ok d, mu.set n (.lst ds.dropLast))
      | none => (.error .stuck, mu))
  | .ok _ => (.error .stuck, mu)
/-- an own list takes what is made -/
def sAppT (i : Nat) (F : TF1) : TS1 := fun mu ρ => match ρ[i]? with
  | some (some (.ow (.lst ds))) => sOnT F (fun d mu ρ => if lim ds.length then (.nx (ρ.set i (some (.ow (.lst (ds ++ [d]))))), mu) else (.er .stuck ρ, mu)) mu ρ
  | _ => (.er .stuck ρ, mu)
section
variable {X : Cx} {W : WX} {st : Stmt} {rest : List Stmt} {g h : TS1} {F : TF1} {c : Tbl → Sto → M Bool × Tbl} {e tg : Expr} {pos : Pos} {i : Nat} {x : Str}
theorem tt_nil : PSs X [] (TST X.K X.mg ex W sNilT) := pss_nil.wk fun Dn σ H ⟨al0, B0, H0, al, mu, B, ρ, S, q⟩ => q σ al B H S
theorem tt_one (h1 : PS X st (TST X.K X.mg ex W g)) : PSs X [st] (TST X.K X.mg ex W g) := pss_one h1
theorem tt_cons (h1 : PS X st (TST X.K X.mg ex W g)) (h2 : PSs X rest (TST X.K X.mg ex W h)) : PSs X (st :: rest) (TST X.K X.mg ex W (sSeqT g h)) := (pss_cons h1 h2).wk fun Dn σ H ⟨al0, B0, H0, al, mu, B, ρ, S, q⟩ => by
  refine ⟨al0, B0, H0, al, mu, B, ρ, S, ?_⟩
  unfold sSeqT at q
  cases hr : g mu ρ with
  | mk r mu1 =>
    rw [hr] at q
    cases r with
    | nx ρ' => exact fun σ' al' B' H' S' => ⟨al0, B0, H0, al', mu1, B', ρ', S', q⟩
    | rt s => cases s <;> exact q
    | bk ρ' => exact q
    | ct ρ' => exact q
    | er er ρ' => exact q
theorem spost_er {Dn : Ends} {al0 al al' : List Addr} {mu mu' : Tbl} {B0 H0 B H B' H' : Hp} {σ : L2.St} {ρ : Sto} {er : Er} (S : StT X.K X.mg ex al0 B0 H0 al mu B H σ ρ) (x : Gro al B H al' B' H') (t : TbOk ⟨X.K, X.mg, al', mu', ex⟩ B' H') (q : SPostT X.K X.mg ex W al0 B0 H0 Dn (.er er ρ, mu')) :
    ErOk ⟨X.K, X.mg, al', mu', ex⟩ W B' H' σ er := q σ al' B' H' (S.grow x t)
theorem son_i {Dn : Ends} {al0 al : List Addr} {mu : Tbl} {B0 H0 B H : Hp} {σ : L2.St} {ρ : Sto} {k : D → TS1} {R : VK} (S : StT X.K X.mg ex al0 B0 H0 al mu B H σ ρ) (q : SPostT X.K X.mg ex W al0 B0 H0 Dn (sOnT F k mu ρ))
    (hk : ∀ v al1 mu1 B1 H1 d, Gro al B H al1 B1 H1 → StT X.K X.mg ex al0 B0 H0 al1 mu1 B1 H1 σ ρ → Rep ⟨X.K, X.mg, al1, mu1, ex⟩ B1 d v → SPostT X.K X.mg ex W al0 B0 H0 Dn (k d mu1 ρ) → R v H1) : TDT X.K X.mg ex W F σ H R := by
  unfold sOnT at q
  refine tdt_i S (fun er mu' he => ?_) fun v al1 mu1 B1 H1 d x t r e1 => ?_
  · rw [he] at q
    exact fun al' B' H' x t => spost_er S x t q
  · rw [e1] at q
    exact hk v al1 mu1 B1 H1 d x (S.grow x t) r q
theorem ts_set (i : Nat) {pos' : Pos} (hN : X.N.Nodup) (he : PE X e (TDT X.K X.mg ex W F)) (hi : X.N[i]? = some x := by rfl) (hx : Loc X.env.scope x := by first | exact Or.inl rfl | exact Or.inr rfl) (hs : swapsWith e (some (.Name x pos')) pos.line X.env = pure false := by rfl) (hf : X.fn x = true ∨ X.env.scope.names.lookup x = some .local := by first | exact .inl rfl | exact .inr rfl) :
    PS X (.Assign [.Name x pos'] e pos) (TST X.K X.mg ex W (sSetT i F)) := (ps_set hN hi hx he hs hf).wk fun Dn σ H ⟨al0, B0, H0, al, mu, B, ρ, S, q⟩ =>
  son_i S q fun v al1 mu1 B1 H1 d x S1 r q1 => q1 _ al1 B1 H1 (S1.back (S1.pure.set_sh r i))
theorem ts_expr (he : PE X e (TDT X.K X.mg ex W F)) (hs : swapsWith e none pos.line X.env = pure false := by rfl) : PS X (.Expr e pos) (TST X.K X.mg ex W (sExprT F)) := (ps_expr he hs).wk fun Dn σ H ⟨al0, B0, H0, al, mu, B, ρ, S, q⟩ =>
  son_i S q fun v al1 mu1 B1 H1 d x S1 r q1 => q1 _ al1 B1 H1 S1
theorem ts_ret (he : PE X e (TDT X.K X.mg ex W F)) : PS X (.Return (some e) pos) (TST X.K X.mg ex W (sRetT F)) := (ps_ret he).wk fun Dn σ H ⟨al0, B0, H0, al, mu, B, ρ, S, q⟩ =>
  son_i S q fun v al1 mu1 B1 H1 d x S1 r q1 => q1 v al1 B1 H1 S1.gro S1.tb r
theorem pg_ex {ι κ : Type} {t : ι → κ → TG} (h : ∀ i k, PG X tg (t i k)) : PG X tg (fun v σ H Q => ∃ i k, t i k v σ H Q) := ⟨fun pins s σ H v u Q I r ⟨i, k, q⟩ => (h i k).run pins s σ H v u Q I r q⟩
theorem ts_unp {b : D → Sto → Option Sto} {is : List Nat} (he : PE X e (TDT X.K X.mg ex W F)) (hg : ∀ al mu, PG X tg (TGD (gd X al mu ex) b is)) (hs : swapsWithSole [tg] e pos.line X.env = pure false := by rfl) (hw : swappedStores [tg] e X.env = pure none := by rfl) (h1 : (assignEach [tg] X.env).map (·.2) = [assign tg X.env] := by rfl) :
    PS X (.Assign [tg] e pos) (TST X.K X.mg ex W (sUnpT F b)) := (ps_asg he (pg_ex hg) hs hw h1).wk fun Dn σ H ⟨al0, B0, H0, al, mu, B, ρ, S, q⟩ =>
  son_i S q fun v al1 mu1 B1 H1 d x S1 r q1 => by
    have q1 : SPostT X.K X.mg ex W al0 B0 H0 Dn (match b d ρ with | some ρ' => (.nx ρ', mu1) | none => (.er .stuck ρ, mu1)) := q1
    cases hb : b d ρ with
    | none => rw [hb] at q1; exact (q1 σ al1 B1 H1 S1).elim
    | some ρ' =>
      rw [hb] at q1
      exact ⟨al1, mu1, _, _, B1, ρ, d, ρ', S1.pure, r, hb, fun σ' S' _ _ => q1 σ' al1 B1 H1 (S1.back S')⟩
theorem ts_if {t : Expr} {a b : List Stmt} (hc : PT X t (TBT X.K X.mg ex W c)) (ha : PSs X a (TST X.K X.mg ex W g)) (hb : PSs X b (TST X.K X.mg ex W h)) : PS X (.If t a b pos) (TST X.K X.mg ex W (sIfT c g h)) := (ps_if hc ha hb).wk fun Dn σ H ⟨al0, B0, H0, al, mu, B, ρ, S, q⟩ => by
  unfold sIfT at q
  refine tbt_i S (fun er mu' he => ?_) fun k al1 mu1 B1 H1 x t e => ?_
  · rw [he] at q
    exact fun al' B' H' x t => spost_er S x t q
  · rw [e] at q
    cases k with
    | true => exact ⟨al0, B0, H0, al1, mu1, B1, ρ, S.grow x t, q⟩
    | false => exact ⟨al0, B0, H0, al1, mu1, B1, ρ, S.grow x t, q⟩
theorem pi_ex {ι κ : Type} {t : ι → κ → TI} (h : ∀ i k, PI X tg e (t i k)) : PI X tg e (fun σ H Q => ∃ i k, t i k σ H Q) := ⟨fun pins s σ H Q I ⟨i, k, q⟩ => (h i k).run pins s σ H Q I q⟩
theorem ts_for {iter : Expr} {body : List Stmt} {f : Tbl → Sto → M (List D)} {b : D → Sto → Option Sto} {is : List Nat} (hp : PassesOwn (model X.prog X.w) X.A X.env X.xe) (hc : X.calm = true) (hi : ∀ al mu, PI X tg iter (TID (gd X al mu ex) W (f mu))) (hg : ∀ al mu, PG X tg (TGD (gd X al mu ex) b is)) (hb : PSs X body (TST X.K X.mg ex W g))
    (hs : ∀ x, foldedSetIterable iter X.env x = pure x := by intro _; rfl) : PS X (.For tg iter body [] pos) (TST X.K X.mg ex W (sForT f b g)) := (ps_for hp hc (pi_ex hi) (pg_ex hg) hb hs).wk fun Dn σ H ⟨al0, B0, H0, al, mu, B, ρ, S, q⟩ => by
  unfold sForT at q
  refine ⟨al, mu, _, _, B, ρ, S.pure, ?_⟩
  cases hf : f mu ρ with
  | error er => rw [hf] at q; exact q σ al B H S
  | ok ds =>
    rw [hf] at q
    intro J B1 H1 x w
    have S1 := S.mono x
    have q1 : SPostT X.K X.mg ex W al B1 (less H1 σ ρ) Dn (flT b g ds mu ρ) := SPostT.rebase S1 q
    refine ⟨fun i m σ' H' => m = ds.length - i ∧ i ≤ ds.length ∧ ∃ al2 mu2 B2 ρ2, StT X.K X.mg ex al B1 (less H1 σ ρ) al2 mu2 B2 H' σ' ρ2 ∧ SPostT X.K X.mg ex W al B1 (less H1 σ ρ) Dn (flT b g (ds.drop i) mu2 ρ2),
      ⟨_, rfl, Nat.zero_le _, al, mu, B1, ρ, S1.self, by rw [List.drop_zero]; exact q1⟩, ?_⟩
    rintro i m σ2 H2 ⟨rfl, hi, al2, mu2, B2, ρ2, S2, q2⟩
    have sb := S2.gro.b
    have gl := S2.gro.get
    by_cases hlt : i < ds.length
    · refine .inr ⟨w.goes i B2 H2 hlt sb S2.gro.i', ?_⟩
      obtain ⟨d, hd⟩ : ∃ d, ds[i]? = some d := ⟨ds[i], List.getElem?_eq_getElem hlt⟩
      have hdrop : ds.drop i = d :: ds.drop (i + 1) := by
        rw [List.drop_eq_getElem_cons hlt]
        have := (List.getElem?_eq_some_iff.mp hd).2
        rw [this]
      rw [hdrop] at q2
      unfold flT at q2
      cases hb' : b d ρ2 with
      | none => rw [hb'] at q2; exact (q2 σ2 al2 B2 H2 S2).elim
      | some ρ3 =>
        rw [hb'] at q2
        dsimp only at q2
        refine ⟨fun σ' H' => ∃ al2 mu2 B2 ρ2, StT X.K X.mg ex al B1 (less H1 σ ρ) al2 mu2 B2 H' σ' ρ2 ∧ SPostT X.K X.mg ex W al B1 (less H1 σ ρ) Dn (flT b g (ds.drop (i + 1)) mu2 ρ2), fun σ' H' h' => ⟨ds.length - (i + 1), by omega, rfl, hlt, h'⟩, fun y H3 hy => ?_⟩
        obtain ⟨B3, d', x3, hd', rd⟩ := w.ylds i B2 H2 y H3 hlt sb S2.gro.i' hy
        rw [hd] at hd'
        cases hd'
        have S3 := S2.mono x3
        refine ⟨al2, mu2, _, _, B3, ρ2, d, ρ3, S3.pure, rep_grow gl _ _ rd, hb', fun σ' S' _ _ => ⟨al, B1, less H1 σ ρ, al2, mu2, B3, ρ3, S3.back S', ?_⟩⟩
        cases hr : g mu2 ρ3 with
        | mk r mu3 =>
          rw [hr] at q2
          cases r with
          | nx ρ' => exact fun σ4 al4 B4 H4 S4 => ⟨al4, mu3, B4, ρ', S4, q2⟩
          | ct ρ' => exact fun σ4 al4 B4 H4 S4 => ⟨al4, mu3, B4, ρ', S4, q2⟩
          | bk ρ' => exact q2
          | rt s => cases s <;> exact q2
          | er er ρ' => exact q2
    · have e : i = ds.length := by omega
      subst e
      rw [List.drop_length] at q2
      exact .inl ⟨w.stops B2 H2 sb S2.gro.i', q2 σ2 al2 B2 H2 S2⟩
end
end DL

namespace DL
open PySem PySem.Spec PyProof.Rows L2

/-! ### attributes, lists that several may know -/
section
variable {X : Cx} {W : WX} {st : Stmt} {F : TF1} {e o : Expr} {pos : Pos} {i : Nat} {x f cn : Str} {fl : List Str} {fo fe : Tbl → Sto → M D}
theorem StT.cell {K : PySem.W.Frag} {mg : Str → Option Value} {al al0 : List Addr} {mu : Tbl} {B H B0 H0 : Hp} {σ : L2.St} {ρ : Sto} {n : Nat} {a : Addr} {o : HO} {c : Cl} (S : StT K mg ex al0 B0 H0 al mu B H σ ρ) (ha : al[n]? = some a) (hc : ClAt ⟨K, mg, al, mu, ex⟩ B (upd H a o) a c) :
    StT K mg ex al0 B0 H0 al (mu.set n c) B (upd H a o) σ ρ := by
  have hm := List.mem_of_getElem? ha
  obtain ⟨h1, o', h2⟩ := S.tb.get hm
  exact S.grow (Gro.put S.gro.i' hm h1 (by rw [h2]; simp)) (S.tb.put ha hc)
theorem ts_fld {pos' : Pos} (T : ClsT X.K X.mg cn fl) (ho : ∀ al mu, PE X o (TD (gd X al mu ex) W (fo mu))) (he : PE X e (TDT X.K X.mg ex W F)) (hf : f ∈ fl := by decide +kernel) (hs : swapsWith e (some (.Attribute o f pos')) pos.line X.env = pure false := by rfl) :
    PS X (.Assign [.Attribute o f pos'] e pos) (TST X.K X.mg ex W (sFldT cn f fo F)) := (ps_fld (pe_ex ho) he hs).wk fun Dn σ H ⟨al0, B0, H0, al, mu, B, ρ, S, q⟩ =>
  son_i S q fun v al1 mu1 B1 H1 d x S1 r q1 => by
    refine ⟨al1, mu1, td_i S1.pure (fun er h => by rw [h] at q1; exact q1 σ al1 B1 H1 S1) fun w H2 B2 d2 x2 r2 e2 => ?_⟩
    rw [e2] at q1
    have S2 := S1.mono x2
    cases d2 with
    | hdl n =>
      dsimp only at q1
      cases ho : objOf mu1 cn (.hdl n) with
      | none => rw [ho] at q1; exact (q1 σ al1 B1 H1 S1).elim
      | some fs =>
        rw [ho] at q1
        dsimp only at q1
        split at q1
        · rename_i hl
          obtain ⟨n', a, en, rfl, h1, h2, h3, C, dx, gs, m, h4, rf⟩ := cellOf_at S2.tb r2 (objOf_cell ho)
          cases en
          obtain ⟨C', m', c, na⟩ := T.ex
          have m : X.mg cn = some (.ref C) := m
          rw [m'] at m
          cases m
          refine ⟨a, C, dx, gs, rfl, h4, c, na f hf, by rw [repf_len rf]; exact hl, q1 σ al1 B2 _ (S2.cell h1 ⟨C, dx, _, m', upd_same, repf_put (rep_mono x2.b _ _ r) rf⟩)⟩
        · exact (q1 σ al1 B1 H1 S1).elim
    | _ => exact (q1 σ al1 B1 H1 S1).elim
theorem ts_appC {apos cpos : Pos} (ho : ∀ al mu, PE X o (TD (gd X al mu ex) W (fo mu))) (he : ∀ al mu, PE X e (TD (gd X al mu ex) W (fe mu)))
    (hbase : attributeBase o "append" X.env (eval o X.env) = eval o X.env := by rfl)
    (hfew : ((backTo cpos (starEach (e :: []) X.env)).all (fun x => !x.1) && (backToKw cpos (keywordEach [] X.env)).all (fun x => x.1.isSome)
      && decide ((e :: []).length + ([] : List Keyword).length + (if ([] : List Keyword).isEmpty then 0 else 1) < 30)) = true := by rfl)
    (hline : (apos.endLine == cpos.line) = true := by rfl) (hs : starEach (e :: []) X.env = (false, eval e X.env) :: starEach [] X.env := by rfl) (hsw : swapsWith (.Call (.Attribute o "append" apos) [e] [] cpos) none pos.line X.env = pure false := by rfl) :
    PS X (.Expr (.Call (.Attribute o "append" apos) [e] [] cpos) pos) (TST X.K X.mg ex W (sAppC fo fe)) :=
  (ps_expr (pe_bm PySem.F.plainAttrs_list PySem.F.slot_list_append PySem.F.type_list_append mt_append (pe_ex ho) (pa_cons (pe_ex he) pa_nil hs) hbase hfew hline hs rfl) hsw).wk fun Dn σ H ⟨al0, B0, H0, al, mu, B, ρ, S, q⟩ => by
    unfold sAppC at q
    refine ⟨al, mu, td_i S.pure (fun er h => by rw [h] at q; exact q σ al B H S) fun v H1 B1 d x1 r1 e1 => ?_⟩
    rw [e1] at q
    have S1 := S.mono x1
    cases d with
    | hdl n =>
      dsimp only at q
      cases ho : lstOf mu (.hdl n) with
      | none => rw [ho] at q; exact (q σ al B H S).elim
      | some ds =>
        rw [ho] at q
        dsimp only at q
        obtain ⟨n', a, en, rfl, h1, h2, h3, xs, h4, rf⟩ := cellOf_at S1.tb r1 (lstOf_cell ho)
        cases en
        refine ⟨.inl ⟨rfl, xs, .of h4⟩, al, mu, td_i S1.pure (fun er h => by rw [h] at q; exact q σ al B1 H1 S1) fun w H2 B2 d2 x2 r2 e2 => ?_⟩
        rw [e2] at q
        have S2 := S1.mono x2
        dsimp only at q
        split at q
        · rename_i hl
          exact ⟨a, xs, w, rfl, rfl, x2.h _ _ h4, by rw [reps_len rf]; exact lim_lt hl, q σ al B2 _ (S2.cell h1 ⟨_, upd_same, reps_app (reps_mono x2.b _ _ rf) (reps_one r2)⟩)⟩
        · exact (q σ al B2 H2 S2).elim
    | _ => exact (q σ al B1 H1 S1).elim
theorem te_popC {apos cpos : Pos} (ho : ∀ al mu, PE X o (TD (gd X al mu ex) W (fo mu)))
    (hbase : attributeBase o "pop" X.env (eval o X.env) = eval o X.env := by rfl) (hline : (apos.endLine == cpos.line) = true := by rfl) : PE X (.Call (.Attribute o "pop" apos) [] [] cpos) (TDT X.K X.mg ex W (ePopC fo)) :=
  (pe_bm0 PySem.F.plainAttrs_list PySem.F.slot_list_pop PySem.F.type_list_pop mt_pop (pe_ex ho) hbase hline).wk fun σ H Q ⟨al0, B0, H0, al, mu, B, ρ, S, q⟩ => by
    unfold ePopC at q
    refine ⟨al, mu, td_i S.pure (fun er h => by rw [h] at q; exact q al B H (.refl S.gro.i') S.tb) fun v H1 B1 d x1 r1 e1 => ?_⟩
    rw [e1] at q
    have S1 := S.mono x1
    cases d with
    | hdl n =>
      dsimp only at q
      cases ho : lstOf mu (.hdl n) with
      | none => rw [ho] at q; exact (q al B H (.refl S.gro.i') S.tb).elim
      | some ds =>
        rw [ho] at q
        dsimp only at q
        obtain ⟨n', a, en, rfl, h1, h2, h3, xs, h4, rf⟩ := cellOf_at S1.tb r1 (lstOf_cell ho)
        cases en
        refine ⟨.inl ⟨rfl, xs, .of h4⟩, ?_⟩
        cases hd : ds[ds.length - 1]? with
        | none => rw [hd] at q; exact (q al B H (.refl S.gro.i') S.tb).elim
        | some d =>
          rw [hd] at q
          obtain ⟨w, hw, rw_⟩ := reps_get rf hd
          have len := reps_len rf
          refine ⟨a, xs, w, rfl, rfl, h4, by rw [len]; exact hw, ?_⟩
          have hm := List.mem_of_getElem? h1
          have g : Gro al B H al B1 (upd H1 a (.lst xs.dropLast)) := (Gro.of x1).trans (Gro.put x1.i' hm h3 (by rw [h4]; simp))
          refine q w al B1 _ g (S1.tb.put h1 ⟨_, upd_same, ?_⟩) (rep_grow (fun _ _ h => h) _ _ rw_)
          have := reps_take (ds.length - 1) rf
          rw [List.dropLast_eq_take, List.dropLast_eq_take, len]
          exact this
    | _ => exact (q al B1 H1 (.of x1) S1.tb).elim
theorem ts_app (i : Nat) {px apos cpos : Pos} (he : PE X e (TDT X.K X.mg ex W F)) (hN : X.N[i]? = some x := by rfl) (hv : Vis X.env.scope x := by first | exact Or.inl rfl | exact Or.inr (Or.inl rfl) | exact Or.inr (Or.inr rfl)) (hd : (x == ("__debug__" : Str)) = false := by decide) (hcd : (x == ("__classdict__" : Str)) = false := by decide)
    (hbase : attributeBase (.Name x px) "append" X.env (eval (.Name x px) X.env) = eval (.Name x px) X.env := by rfl)
    (hfew : ((backTo cpos (starEach (e :: []) X.env)).all (fun x => !x.1) && (backToKw cpos (keywordEach [] X.env)).all (fun x => x.1.isSome)
      && decide ((e :: []).length + ([] : List Keyword).length + (if ([] : List Keyword).isEmpty then 0 else 1) < 30)) = true := by rfl)
    (hline : (apos.endLine == cpos.line) = true := by rfl) (hs : starEach (e :: []) X.env = (false, eval e X.env) :: starEach [] X.env := by rfl) (hsw : swapsWith (.Call (.Attribute (.Name x px) "append" apos) [e] [] cpos) none pos.line X.env = pure false := by rfl) :
    PS X (.Expr (.Call (.Attribute (.Name x px) "append" apos) [e] [] cpos) pos) (TST X.K X.mg ex W (sAppT i F)) :=
  (ps_expr (pe_bm PySem.F.plainAttrs_list PySem.F.slot_list_append PySem.F.type_list_append mt_append (pe_var hN hv hd hcd) (pa_cons he pa_nil hs) hbase hfew hline hs rfl) hsw).wk fun Dn σ H ⟨al0, B0, H0, al, mu, B, ρ, S, q⟩ => by
    unfold sAppT at q
    split at q
    · rename_i ds hi
      obtain ⟨p, h1, h2, h3, xs, h4, rs⟩ := S.ow i _ hi
      refine ⟨_, h1, .inl ⟨rfl, xs, .of h4⟩, ?_⟩
      refine son_i S q fun v al1 mu1 B1 H1 d x S1 r q1 => ?_
      have q1 : SPostT X.K X.mg ex W al0 B0 H0 Dn (if lim ds.length then (.nx (ρ.set i (some (.ow (.lst (ds ++ [d]))))), mu1) else (.er .stuck ρ, mu1)) := q1
      split at q1
      · rename_i hl
        have h4' := x.h _ _ h4 h2.2
        exact ⟨p, xs, v, rfl, rfl, h4', by rw [reps_len rs]; exact lim_lt hl, q1 _ al1 B1 _ (S1.back (S1.pure.upd_ow hi h1 ⟨_, upd_same, reps_app (x.reps rs) (reps_one r)⟩))⟩
      · exact (q1 σ al1 B1 H1 S1).elim
    · exact (q σ al B H S).elim
end

/-! ### defs that change something -/
abbrev MF := List D → Tbl → M D × Tbl
def spT (K : PySem.W.Frag) (mg : Str → Option Value) (n : Nat) (m : MF) : Sp := fun vs H Q E => ∃ al mu ex B ds, ds.length = n ∧ Same B H ∧ TbOk ⟨K, mg, al, mu, ex⟩ B H ∧ Reps ⟨K, mg, al, mu, ex⟩ B ds vs ∧ DPostT K mg ex (fun cls d _ H' => E cls d H') al B H [] Q (m ds mu)
def outT : Res × Tbl → M D × Tbl
  | (.nx _, mu) => (.ok .non, mu)
  | (.rt (.sh d), mu) => (.ok d, mu)
  | (.er e _, mu) => (.error e, mu)
  | (_, mu) => (.error .stuck, mu)
def runT (n np : Nat) (g : TS1) : MF := fun ds mu => if ds.length = np then outT (g mu (startS n ds)) else (.error .stuck, mu)
structure FnT (P : Program) (w : World) (K : PySem.W.Frag) (mg : Str → Option Value) (base : Heap) (k : Nat) (x : Str) (n : Nat) (m : MF) : Prop where
  ex : ∃ f fd ps, FnOk P w K mg base (L2.CX P w) k f fd ps (spT K mg n m) ∧ mg x = some (.ref f) ∧ PySem.W.keepIn K (.ref f) = true ∧ Binds K fd ps []
structure MtT (P : Program) (w : World) (K : PySem.W.Frag) (mg : Str → Option Value) (base : Heap) (k : Nat) (cn x : Str) (n : Nat) (m : MF) : Prop where
  ex : ∃ C f fd ps, mg cn = some (.ref C) ∧ Cls K C ∧ Meth K C x f ∧ FnOk P w K mg base (L2.CX P w) k f fd ps (spT K mg n m) ∧ Binds K fd ps []
structure MkT (P : Program) (w : World) (K : PySem.W.Frag) (mg : Str → Option Value) (base : Heap) (k : Nat) (cn : Str) (n : Nat) (m : MF) : Prop where
  ex : ∃ C f fd ps, mg cn = some (.ref C) ∧ Mk K C f ∧ FnOk P w K mg base (L2.CX P w) k f fd ps (spT K mg n m) ∧ Binds K fd ps []
section
variable {P : Program} {w : World} {K : PySem.W.Frag} {mg : Str → Option Value} {base : Heap}
theorem bodyT_ok {N ps : List Str} {g : TS1} {vs : List V} {H : Hp} {Q : VK} {E : XK} (h : spT K mg ps.length (runT N.length ps.length g) vs H Q E) : ∃ ex, TST K mg ex (fun cls d _ H' => E cls d H') g { nx := fun _ H' => Q .non H', rt := Q } (start N vs) H := by
  obtain ⟨al, mu, ex, B, ds, hn, s, t, r, q⟩ := h
  have S0 := start_ok (N := N) s t r
  refine ⟨ex, al, B, H, al, mu, B, startS N.length ds, ⟨.refl s, S0.len, S0.sh, S0.ow, S0.ap, t, S0.xs⟩, ?_⟩
  unfold runT at q
  rw [if_pos hn] at q
  cases hr : g mu (startS N.length ds) with
  | mk r mu1 =>
    rw [hr] at q
    cases r with
    | nx ρ => exact fun σ al' B' H' S => q .non al' B' H' S.gro S.tb rep_non
    | rt sl =>
      cases sl with
      | sh d => exact fun v al' B' H' x t r' => q v al' B' H' x t r'
      | ow d => exact fun p al' B' H' x t _ _ _ _ => (q al' B' H' x t).elim
      | ex c o => exact fun al' B' H' x t => (q al' B' H' x t).elim
    | er e ρ =>
      intro σ al' B' H' S
      have q2 : ErOk ⟨K, mg, al', mu1, ex⟩ (fun cls d _ H' => E cls d H') B' H' [] e := q al' B' H' S.gro S.tb
      cases e with
      | stuck => exact q2
      | exc c a => exact q2
    | bk ρ => exact fun σ al' B' H' S => (q al' B' H' S.gro S.tb).elim
    | ct ρ => exact fun σ al' B' H' S => (q al' B' H' S.gro S.tb).elim
theorem fnT_ok {x qual : Str} {st : Stmt} {f : Addr} {fd : FuncData} {N ps : List Str} {k n : Nat} {m : MF} {g : TS1} (F : Fun K x qual st f fd) (S : FnScope N ps (defScope st)) (hn : ps.length = n) (hm : m = runT N.length n g)
    (hb : ∀ (ex : Option XV) (cdv : Value) (A : Around) (outer : List Env) (s : Shared) (H : Hp) (E : XK), Room k (A.deeper (envOfC qual (defScope st) s.heap.objs.size f cdv)) → PSs (cxOf (L2.CX P w) P w K mg base N qual (defScope st) f cdv A outer s H E) (defBody st) (TST K mg ex (fun cls d _ H' => E cls d H') g)) : FnOk P w K mg base (L2.CX P w) (k + 1) f fd ps (spT K mg n m) := by
  subst hn hm
  refine F.okX S (fun vs H Q E h => ?_) (fun cdv A outer s H vs Q E hr h => let ⟨ex, h⟩ := bodyT_ok h; ⟨_, hb ex cdv A outer s H E hr, h⟩)
  obtain ⟨al, mu, ex, B, ds, hn, _, _, r, _⟩ := h
  rw [reps_len r, hn]
end
/-! ### their calls -/
def eFnT (m : MF) (a : Tbl → Sto → M (List D)) : TF1 := fun mu ρ => match a mu ρ with
  | .ok ds => m ds mu
  | .error e => (.error e, mu)
def eMtT (cn x : Str) (m : MF) (o : Tbl → Sto → M D) (a : Tbl → Sto → M (List D)) : TF1 := fun mu ρ => match o mu ρ with
  | .error e => (.error e, mu)
  | .ok d => if canM mu cn x d then (match a mu ρ with
    | .ok ds => m (d :: ds) mu
    | .error e => (.error e, mu)) else (.error .stuck, mu)
def eNewT (cn : Str) (m : MF) (a : Tbl → Sto → M (List D)) : TF1 := fun mu ρ => match a mu ρ with
  | .error e => (.error e, mu)
  | .ok ds => match m (.hdl mu.length :: ds) (mu ++ [.obj cn []]) with
    | (.ok .non, mu') => (.ok (.hdl mu.length), mu')
    | (.ok _, mu') => (.error .stuck, mu')
    | (.error e, mu') => (.error e, mu')
section
variable {X : Cx} {W : WX} {x cn : Str} {p pos apos : Pos} {o e : Expr} {es : List Expr} {fo : Tbl → Sto → M D} {f : Tbl → Sto → M (List D)} {k n : Nat} {m : MF}
theorem pa_ex {ι κ : Type} {t : ι → κ → TA} (h : ∀ i k, PA X es (t i k)) : PA X es (fun σ H Q => ∃ i k, t i k σ H Q) := ⟨fun pos pins s σ H Q I ⟨i, k, q⟩ => (h i k).run pos pins s σ H Q I q⟩
/-- a callee's way out is ours -/
theorem dpost_call {K : PySem.W.Frag} {mg : Str → Option Value} {al al1 : List Addr} {B H B1 H1 : Hp} {σ : L2.St} {Q : VK} {r : M D × Tbl} (x : Gro al B H al1 B1 H1) (q : DPostT K mg ex W al B H σ Q r) : DPostT K mg ex (fun cls d _ H' => WE W σ cls d H') al1 B1 H1 [] Q r := by
  obtain ⟨r, mu⟩ := r
  cases r with
  | ok d => exact fun v al' B' H' y t r => q v al' B' H' (x.trans y) t r
  | error e =>
    intro al' B' H' y t
    have q2 := q al' B' H' (x.trans y) t
    cases e with
    | stuck => exact q2
    | exc c a => exact q2
theorem te_fn (F : FnT X.prog X.w X.K X.mg X.base k x n m) (hr : Room k X.A) (tk : Takes X W) (ha : ∀ al mu, PA X (e :: es) (TAD (gd X al mu ex) W (f mu))) (hl : ∀ mu, LenA (f mu) n := by intro mu; repeat (first | exact len_nil | refine len_cons ?_)) (hg : Gl X x := by rfl) (hdb : (x == ("__debug__" : Str)) = false := by decide)
    (he : starEach (e :: es) X.env = (false, eval e X.env) :: starEach es X.env := by rfl) (hpl : (backTo pos (starEach es X.env)).any (·.1) = false := by rfl) :
    PE X (.Call (.Name x p) (e :: es) [] pos) (TDT X.K X.mg ex W (eFnT m f)) := by
  obtain ⟨fa, fd, ps, F, hm, hk, hb⟩ := F.ex
  refine ⟨fun pins s σ H Q I ⟨al0, B0, H0, al, mu, B, ρ, S, q⟩ => ?_⟩
  unfold eFnT at q
  refine wpAny_Call_Name_kw (ld_glob I hg hm ?_ hdb)
  refine PySem.W.callWith_K (h₀ := X.base) I.ok.mod.kin hk (thn ((ha al mu).run pos pins s σ H (fun vs H1 => ∃ B1 ds, Ext B H B1 H1 ∧ Reps (gd X al mu ex) B1 ds vs ∧ f mu ρ = .ok ds) I (tad_i S.pure (fun er h => by rw [h] at q; exact q al B H (.refl S.gro.i') S.tb) fun vs H1 B1 ds x r e => ⟨B1, ds, x, r, e⟩)) fun us s1 ⟨vs, H1, I1, r, B1, ds, x, rr, e1⟩ => ⟨I1.kIn, ?_⟩) he hpl
  rw [e1] at q
  have q' : DPostT X.K X.mg ex W al B H σ Q (m ds mu) := q
  exact run_fnS F hr hb (passAt tk σ) I1 r ⟨al, mu, ex, B1, ds, hl mu ρ ds e1, x.i', S.tb.mono x, rr, dpost_call (.of x) q'⟩
theorem te_mt {pl : Sem Bool} (F : MtT X.prog X.w X.K X.mg X.base k cn x (n + 1) m) (hr : Room k X.A) (tk : Takes X W) (ho : ∀ al mu, PE X o (TD (gd X al mu ex) W (fo mu))) (ha : ∀ al mu, PA X (e :: es) (TAD (gd X al mu ex) W (f mu))) (hl : ∀ mu, LenA (f mu) n := by intro mu; repeat (first | exact len_nil | refine len_cons ?_))
    (hst : starEach (e :: es) X.env = (false, eval e X.env) :: starEach es X.env := by rfl) (hpl : (backTo pos (starEach es X.env)).any (·.1) = false := by rfl)
    (ht : eval (.Call (.Attribute o x apos) (e :: es) [] pos) X.env = (do
      let ov ← eval o X.env
      standAt apos.atName
      let (f, first) ← holding [ov] (getMethod ov x pl)
      callWith pos f first (backTo pos (starEach (e :: es) X.env)) (backToKw pos (keywordEach [] X.env))) := by rfl) :
    PE X (.Call (.Attribute o x apos) (e :: es) [] pos) (TDT X.K X.mg ex W (eMtT cn x m fo f)) := by
  obtain ⟨C, fa, fd, ps, hC, c, hm, F, hb⟩ := F.ex
  refine ⟨fun pins s σ H Q I ⟨al0, B0, H0, al, mu, B, ρ, S, q⟩ => meth_go c hm F hr hb tk (ho al mu) (ha al mu) I ?_ hst hpl ht⟩
  unfold eMtT at q
  refine td_i S.pure (fun er h => by rw [h] at q; exact q al B H (.refl S.gro.i') S.tb) fun v H1 B1 d x1 r1 e1 => ?_
  rw [e1] at q
  have S1 := S.mono x1
  dsimp only at q
  split at q
  · rename_i hc
    obtain ⟨a, dx, gs, rfl, h1, h2⟩ := canM_at S1.tb r1 hC hc
    refine ⟨a, dx, gs, rfl, h1, h2, tad_i S1.pure (fun er h => ?_) fun vs H2 B2 ds x2 r2 e2 => ?_⟩
    · rw [h] at q; exact q al B1 H1 (.of x1) S1.tb
    · rw [e2] at q
      have x3 := x1.trans x2
      exact ⟨al, mu, ex, B2, d :: ds, by rw [List.length_cons, hl mu ρ ds e2], x2.i', S1.tb.mono x2, reps_cons (rep_mono x2.b _ _ r1) r2, dpost_call (.of x3) q⟩
  · exact (q al B H (.refl S.gro.i') S.tb).elim
theorem te_mt0 {pl : Sem Bool} (F : MtT X.prog X.w X.K X.mg X.base k cn x 1 m) (hr : Room k X.A) (tk : Takes X W) (ho : ∀ al mu, PE X o (TD (gd X al mu ex) W (fo mu)))
    (ht : eval (.Call (.Attribute o x apos) [] [] pos) X.env = (do
      let ov ← eval o X.env
      standAt apos.atName
      let (f, first) ← holding [ov] (getMethod ov x pl)
      callWith pos f first (backTo pos (starEach [] X.env)) (backToKw pos (keywordEach [] X.env))) := by rfl) :
    PE X (.Call (.Attribute o x apos) [] [] pos) (TDT X.K X.mg ex W (eMtT cn x m fo fun _ => aNil)) := by
  obtain ⟨C, fa, fd, ps, hC, c, hm, F, hb⟩ := F.ex
  refine ⟨fun pins s σ H Q I ⟨al0, B0, H0, al, mu, B, ρ, S, q⟩ => meth_go0 c hm F hr hb tk (ho al mu) I ?_ ht⟩
  unfold eMtT at q
  refine td_i S.pure (fun er h => by rw [h] at q; exact q al B H (.refl S.gro.i') S.tb) fun v H1 B1 d x1 r1 e1 => ?_
  rw [e1] at q
  have S1 := S.mono x1
  dsimp only at q
  split at q
  · rename_i hc
    obtain ⟨a, dx, gs, rfl, h1, h2⟩ := canM_at S1.tb r1 hC hc
    exact ⟨a, dx, gs, rfl, h1, h2, al, mu, ex, B1, [d], rfl, x1.i', S1.tb, reps_one r1, dpost_call (.of x1) q⟩
  · exact (q al B H (.refl S.gro.i') S.tb).elim
end
end DL

namespace DL
open PySem PySem.Spec PyProof.Rows L2

/-! ### a new object -/
section
variable {X : Cx} {W : WX} {x cn : Str} {p pos apos : Pos} {o e : Expr} {es : List Expr} {fo : Tbl → Sto → M D} {f : Tbl → Sto → M (List D)} {k n : Nat} {m : MF}
theorem make_go {C fa : Addr} {fd : FuncData} {ps : List Str} {sp : Sp} {pins : List (Addr × Obj)} {σ : L2.St} {H : Hp} {s : Shared} {Q : VK} {us : List Value} {vs : List V} (M : Mk X.K C fa) (F : FnOk X.prog X.w X.K X.mg X.base (L2.CX X.prog X.w) k fa fd ps sp) (hr : Room (k + 1) X.A) (hb : Binds X.K fd ps []) (tk : Takes X W)
    (I : Inv X pins σ H s) (rv : Vals vs us) (h : ∀ y dy, H y = none → H dy = none → dy ≠ y → sp (.ref y :: vs) (upd (upd H dy (.own y)) y (.ins C dy [])) (fun v H2 => v = .non ∧ Q (.ref y) H2) (WE W σ)) :
    wpAny (model X.prog X.w) X.A (call (.ref C) us) (EP X pins σ Q) X.xe s := by
  have hsp := h (s.heap.objs.size + 1) s.heap.objs.size (I.hok.fresh (Nat.le_succ _)) (I.hok.fresh (Nat.le_refl _)) (Nat.ne_of_lt (Nat.lt_succ_self _))
  have J := Inv.made (C := C) I
  have rr : Vals (V.ref (s.heap.objs.size + 1) :: vs) (Value.ref (s.heap.objs.size + 1) :: us) := .cons rfl rv
  have len : (Value.ref (s.heap.objs.size + 1) :: us).length = ps.length := by
    rw [← rr.length]
    exact F.len _ _ _ _ hsp
  have bt := hb _ (Value.ref (s.heap.objs.size + 1) :: us) J.kIn (by rw [List.append_nil]; exact len)
  rw [List.append_nil] at bt
  refine wpAny_call (make_map (f := fa) I.kIn M.makes M.init (beq_iff_eq.mp M.fn) (codeAny_mono (F.run _ X.stack _ _ ⟨Value.ref (s.heap.objs.size + 1) :: us, []⟩ _ _ _ (WE W σ) (hr.make C us []) (J.env0.make C us []) bt rr hsp) fun out s' ho => ?_))
  cases out with
  | error er => exact passAt tk σ pins _ _ er s' J ho
  | ok fl =>
    cases fl with
    | ret u =>
      obtain ⟨w, H', J', rw_, ew, qw⟩ := J.after ho
      subst ew
      exact ⟨rw_, V.ref (s.heap.objs.size + 1), H', J', rfl, qw⟩
    | next => exact ho.elim
    | brk => exact ho.elim
    | cont => exact ho.elim
theorem new_go {al al0 : List Addr} {mu : Tbl} {B H B0 H0 B1 H1 : Hp} {σ : L2.St} {ρ : Sto} {Q : VK} {ds : List D} {vs : List V} {C : Addr} (S : StT X.K X.mg ex al0 B0 H0 al mu B H σ ρ) (x1 : Ext B H B1 H1) (hC : X.mg cn = some (.ref C)) (rr : Reps (gd X al mu ex) B1 ds vs) (hn : ds.length = n)
    (q : DPostT X.K X.mg ex W al B H σ Q (match m (.hdl mu.length :: ds) (mu ++ [.obj cn []]) with
      | (.ok .non, mu') => (.ok (.hdl mu.length), mu')
      | (.ok _, mu') => (.error .stuck, mu')
      | (.error e, mu') => (.error e, mu'))) :
    ∀ y dy, H1 y = none → H1 dy = none → dy ≠ y → spT X.K X.mg (n + 1) m (.ref y :: vs) (upd (upd H1 dy (.own y)) y (.ins C dy [])) (fun v H2 => v = .non ∧ Q (.ref y) H2) (WE W σ) := by
  intro y dy hy hdy hne
  have S1 := S.mono x1
  have len : al.length = mu.length := S.tb.len
  have same : Same H1 (upd (upd H1 dy (.own y)) y (.ins C dy [])) := fun b o e => by
    rw [upd_ne (ne_of_none e hy), upd_ne (ne_of_none e hdy)]; exact e
  have g1 : Gro al B1 H1 (al ++ [y]) B1 (upd (upd H1 dy (.own y)) y (.ins C dy [])) := Gro.new x1.i' hy same
  have t0 : TbOk ⟨X.K, X.mg, al, mu, ex⟩ B1 (upd (upd H1 dy (.own y)) y (.ins C dy [])) := S1.tb.keep (Same.refl _) (fun a ha => (S1.tb.get ha).1) fun a ha o e => same a o e
  have t1 : TbOk ⟨X.K, X.mg, al ++ [y], mu ++ [.obj cn []], ex⟩ B1 (upd (upd H1 dy (.own y)) y (.ins C dy [])) := t0.new (S1.tb.out hy) (none_of_same x1.i' hy) ⟨C, dy, [], hC, upd_same, by simp only [RepF]⟩
  refine ⟨al ++ [y], mu ++ [.obj cn []], ex, B1, .hdl mu.length :: ds, by rw [List.length_cons, hn], g1.i', t1, reps_cons ?_ (g1.reps rr), ?_⟩
  · simp only [Rep]
    exact ⟨y, by rw [List.getElem?_append_right (by omega), len, Nat.sub_self]; rfl, rfl⟩
  · have hat : (al ++ [y])[mu.length]? = some y := by rw [List.getElem?_append_right (by omega), len, Nat.sub_self]; rfl
    cases hm : m (.hdl mu.length :: ds) (mu ++ [.obj cn []]) with
    | mk r mu1 =>
      rw [hm] at q
      cases r with
      | ok d =>
        intro v al' B' H' x t rv
        have g2 : Gro al B H al' B' H' := (Gro.of x1).trans (g1.trans x)
        cases d with
        | non =>
          simp only [Rep] at rv
          refine ⟨rv, q (.ref y) al' B' H' g2 t ?_⟩
          simp only [Rep]
          exact ⟨y, x.get _ _ hat, rfl⟩
        | _ => exact (q al' B' H' g2 t).elim
      | error er =>
        intro al' B' H' x t
        have g2 : Gro al B H al' B' H' := (Gro.of x1).trans (g1.trans x)
        have q2 := q al' B' H' g2 t
        cases er with
        | stuck => exact q2
        | exc c a => exact q2
theorem te_new (F : MkT X.prog X.w X.K X.mg X.base k cn (n + 1) m) (hr : Room (k + 1) X.A) (tk : Takes X W) (ha : ∀ al mu, PA X (e :: es) (TAD (gd X al mu ex) W (f mu))) (hl : ∀ mu, LenA (f mu) n := by intro mu; repeat (first | exact len_nil | refine len_cons ?_)) (hg : Gl X cn := by rfl) (hdb : (cn == ("__debug__" : Str)) = false := by decide)
    (he : starEach (e :: es) X.env = (false, eval e X.env) :: starEach es X.env := by rfl) (hpl : (backTo pos (starEach es X.env)).any (·.1) = false := by rfl) :
    PE X (.Call (.Name cn p) (e :: es) [] pos) (TDT X.K X.mg ex W (eNewT cn m f)) := by
  obtain ⟨C, fa, fd, ps, hC, M, F, hb⟩ := F.ex
  refine ⟨fun pins s σ H Q I ⟨al0, B0, H0, al, mu, B, ρ, S, q⟩ => ?_⟩
  unfold eNewT at q
  refine wpAny_Call_Name_kw (ld_glob I hg hC ?_ hdb)
  refine PySem.W.callWith_K (h₀ := X.base) I.ok.mod.kin M.kp (thn ((ha al mu).run pos pins s σ H (fun vs H1 => ∃ B1 ds, Ext B H B1 H1 ∧ Reps (gd X al mu ex) B1 ds vs ∧ f mu ρ = .ok ds) I (tad_i S.pure (fun er h => by rw [h] at q; exact q al B H (.refl S.gro.i') S.tb) fun vs H1 B1 ds x r e => ⟨B1, ds, x, r, e⟩)) fun us s1 ⟨vs, H1, I1, r, B1, ds, x1, rr, e1⟩ => ⟨I1.kIn, ?_⟩) he hpl
  rw [e1] at q
  exact make_go M F hr hb tk I1 r (new_go S x1 hC rr (hl mu ρ ds e1) q)
theorem te_new0 (F : MkT X.prog X.w X.K X.mg X.base k cn 1 m) (hr : Room (k + 1) X.A) (tk : Takes X W) (hg : Gl X cn := by rfl) (hdb : (cn == ("__debug__" : Str)) = false := by decide) :
    PE X (.Call (.Name cn p) [] [] pos) (TDT X.K X.mg ex W (eNewT cn m fun _ => aNil)) := by
  obtain ⟨C, fa, fd, ps, hC, M, F, hb⟩ := F.ex
  refine ⟨fun pins s σ H Q I ⟨al0, B0, H0, al, mu, B, ρ, S, q⟩ => ?_⟩
  refine wpAny_Call_Name_kw (ld_glob I hg hC ?_ hdb)
  exact PySem.W.callWith_K0 I.kIn M.kp (make_go (us := []) (vs := []) M F hr hb tk I .nil (new_go (ds := []) S (Ext.refl S.gro.i') hC reps_nil rfl q))
end

/-! ### what the written part says of classes, methods -/
/-- a method's text -/
structure MF1 (K : PySem.W.Frag) (mg : Str → Option Value) (cn x qual : Str) (st : Stmt) (ps : List Str) : Prop where
  ex : ∃ C f fd, mg cn = some (.ref C) ∧ Fun K x qual st f fd ∧ Cls K C ∧ Meth K C x f ∧ Binds K fd ps []
structure IF1 (K : PySem.W.Frag) (mg : Str → Option Value) (cn qual : Str) (st : Stmt) (ps : List Str) : Prop where
  ex : ∃ C f fd, mg cn = some (.ref C) ∧ Fun K "__init__" qual st f fd ∧ Mk K C f ∧ Binds K fd ps []
section
variable {K : PySem.W.Frag} {mg : Str → Option Value} {P : Program} {w : World} {base : Heap} {x cn qual : Str} {st : Stmt} {ps N : List Str} {k n : Nat}
theorem mt_r {m : Tbl → List D → M D} {g : Tbl → Sto → Res} (F : MF1 K mg cn x qual st ps) (S : FnScope N ps (defScope st)) (hn : ps.length = n) (hm : m = fun mu => runD N.length n (g mu))
    (hb : ∀ (al : List Addr) (mu : Tbl) (ex : Option XV) (f : Addr) (cdv : Value) (A : Around) (outer : List Env) (s : Shared) (H : Hp) (E : XK), Room k (A.deeper (envOfC qual (defScope st) s.heap.objs.size f cdv)) → PSs (cxOf (L2.CX P w) P w K mg base N qual (defScope st) f cdv A outer s H E) (defBody st) (TSD ⟨K, mg, al, mu, ex⟩ (fun cls d _ H' => E cls d H') (g mu))) : MtR P w K mg base (k + 1) cn x n m := by
  obtain ⟨C, f, fd, h1, F, c, mt, b⟩ := F.ex
  subst hn hm
  refine ⟨C, f, fd, ps, h1, c, mt, F.okX S (fun vs H Q E h => ?_) (fun cdv A outer s H vs Q E hr h => let ⟨al, mu, ex, h⟩ := body_ok h; ⟨_, hb al mu ex f cdv A outer s H E hr, h⟩), b⟩
  obtain ⟨al, mu, ex, B, ds, hn, _, _, r, _⟩ := h
  rw [reps_len r, hn]
theorem mt_f {m : Tbl → List D → M D} {g : Tbl → Sto → Res} (F : MF1 K mg cn x qual st ps) (S : FnScope N ps (defScope st)) (hn : ps.length = n) (hm : m = fun mu => runF N.length n (g mu))
    (hb : ∀ (al : List Addr) (mu : Tbl) (ex : Option XV) (f : Addr) (cdv : Value) (A : Around) (outer : List Env) (s : Shared) (H : Hp) (E : XK), Room k (A.deeper (envOfC qual (defScope st) s.heap.objs.size f cdv)) → PSs (cxOf (L2.CX P w) P w K mg base N qual (defScope st) f cdv A outer s H E) (defBody st) (TSD ⟨K, mg, al, mu, ex⟩ (fun cls d _ H' => E cls d H') (g mu))) : MtF P w K mg base (k + 1) cn x n m := by
  obtain ⟨C, f, fd, h1, F, c, mt, b⟩ := F.ex
  subst hn hm
  refine ⟨C, f, fd, ps, h1, c, mt, F.okX S (fun vs H Q E h => ?_) (fun cdv A outer s H vs Q E hr h => let ⟨al, mu, ex, h⟩ := bodyF_ok h; ⟨_, hb al mu ex f cdv A outer s H E hr, h⟩), b⟩
  obtain ⟨al, mu, ex, B, ds, hn, _, _, r, _⟩ := h
  rw [reps_len r, hn]
theorem MtF.r {m : Tbl → List D → M D} (F : MtF P w K mg base k cn x n m) : MtR P w K mg base k cn x n m := by
  obtain ⟨C, f, fd, ps, h1, c, mt, a, b⟩ := F.ex
  refine ⟨C, f, fd, ps, h1, c, mt, a.imp fun vs H Q E ⟨al, mu, ex, B, ds, hn, s, t, r, q⟩ => ⟨al, mu, ex, B, ds, hn, s, t, r, ?_⟩, b⟩
  cases hm : m mu ds with
  | error e => rw [hm] at q; exact q
  | ok d =>
    rw [hm] at q
    intro p B' H' x h1 h2 h3
    obtain ⟨B2, x2, r2⟩ := freeze_rep x h1 h2 h3
    exact q _ B2 H' x2 r2
theorem mt_t {m : MF} {g : TS1} (F : MF1 K mg cn x qual st ps) (S : FnScope N ps (defScope st)) (hn : ps.length = n) (hm : m = runT N.length n g)
    (hb : ∀ (ex : Option XV) (f : Addr) (cdv : Value) (A : Around) (outer : List Env) (s : Shared) (H : Hp) (E : XK), Room k (A.deeper (envOfC qual (defScope st) s.heap.objs.size f cdv)) → PSs (cxOf (L2.CX P w) P w K mg base N qual (defScope st) f cdv A outer s H E) (defBody st) (TST K mg ex (fun cls d _ H' => E cls d H') g)) : MtT P w K mg base (k + 1) cn x n m :=
  let ⟨C, f, _, h1, F, c, mt, b⟩ := F.ex
  ⟨C, f, _, ps, h1, c, mt, fnT_ok F S hn hm (fun ex => hb ex f), b⟩
theorem mk_t {m : MF} {g : TS1} (F : IF1 K mg cn qual st ps) (S : FnScope N ps (defScope st)) (hn : ps.length = n) (hm : m = runT N.length n g)
    (hb : ∀ (ex : Option XV) (f : Addr) (cdv : Value) (A : Around) (outer : List Env) (s : Shared) (H : Hp) (E : XK), Room k (A.deeper (envOfC qual (defScope st) s.heap.objs.size f cdv)) → PSs (cxOf (L2.CX P w) P w K mg base N qual (defScope st) f cdv A outer s H E) (defBody st) (TST K mg ex (fun cls d _ H' => E cls d H') g)) : MkT P w K mg base (k + 1) cn n m :=
  let ⟨C, f, _, h1, F, mk, b⟩ := F.ex
  ⟨C, f, _, ps, h1, mk, fnT_ok F S hn hm (fun ex => hb ex f), b⟩
theorem fft {m : MF} {g : TS1} (F : FF K mg x st ps) (S : FnScope N ps (defScope st)) (hn : ps.length = n) (hm : m = runT N.length n g)
    (hb : ∀ (ex : Option XV) (f : Addr) (cdv : Value) (A : Around) (outer : List Env) (s : Shared) (H : Hp) (E : XK), Room k (A.deeper (envOfC x (defScope st) s.heap.objs.size f cdv)) → PSs (cxOf (L2.CX P w) P w K mg base N x (defScope st) f cdv A outer s H E) (defBody st) (TST K mg ex (fun cls d _ H' => E cls d H') g)) : FnT P w K mg base (k + 1) x n m :=
  let ⟨f, _, F, gm, b⟩ := F.ex
  ⟨f, _, ps, fnT_ok F S hn hm (fun ex => hb ex f), gm, F.kp, b⟩
/-- a def that reads objects, changes nothing -/
theorem ffr {m : Tbl → List D → M D} {g : Tbl → Sto → Res} (F : FF K mg x st ps) (S : FnScope N ps (defScope st)) (hn : ps.length = n) (hm : m = fun mu => runD N.length n (g mu))
    (hb : ∀ (al : List Addr) (mu : Tbl) (ex : Option XV) (f : Addr) (cdv : Value) (A : Around) (outer : List Env) (s : Shared) (H : Hp) (E : XK), Room k (A.deeper (envOfC x (defScope st) s.heap.objs.size f cdv)) → PSs (cxOf (L2.CX P w) P w K mg base N x (defScope st) f cdv A outer s H E) (defBody st) (TSD ⟨K, mg, al, mu, ex⟩ (fun cls d _ H' => E cls d H') (g mu))) : FnR P w K mg base (k + 1) x n m :=
  let ⟨f, _, F, gm, b⟩ := F.ex
  fnr_ok F gm b S hn hm (fun al mu ex => hb al mu ex f)
/-- the law -/
theorem law_impT {fd : FuncData} {m : MF} {f : Addr} (F : FnOk P w K mg base (L2.CX P w) k f fd ps (spT K mg 1 m)) (h : ∀ ns : List Int, ns.length ≤ 63 → ∃ mu, m [scr ns] [] = (.ok (.bl true), mu)) : FnOk P w K mg base (L2.CX P w) k f fd ps (spL K) :=
  F.imp fun vs H Q E ⟨a, ns, e, hS, hl, q⟩ => by
    subst e
    obtain ⟨mu, hm⟩ := h ns hl
    refine ⟨[], [], none, H, [scr ns], rfl, Same.refl _, ⟨rfl, fun i j a h => by simp at h, fun n a c h => by simp at h⟩, reps_one ?_, ?_⟩
    · show Rep _ _ (.fls _) _
      simp only [Rep]
      exact ⟨a, _, rfl, hS, reps_map_int ns⟩
    · rw [hm]
      intro v al' B' H' _ _ r
      simp only [Rep] at r
      subst r
      exact q H'
theorem law_mkT {h : Heap} {a0 : Str} {f fa : Addr} {oc : Value} {od an : Option Addr} {osl : Array (Option Value)} {kV doc pm cdv ct : Value} {m : MF} {g : TS1}
    (X : K.In h) (G : h.Ns mainGlobals mg) (hfa : mg x = some (.ref fa)) (a : PySem.W.nsIn K mainGlobals x = some (some (.ref f))) (l : K.lookup f = some ⟨oc, od, .func (PySem.W.fnOf x x (defArgs st) (defBody st) (defScope st) .none kV doc pm an cdv ct), osl⟩) (c : PySem.W.codeIn K cdv x = true) (kp : PySem.W.keepIn K (.ref f) = true)
    (hb1 : ∀ (s : Shared) (u : Value), BindsTo s (PySem.W.fnOf x x (defArgs st) (defBody st) (defScope st) .none kV doc pm an cdv ct) ⟨[u], []⟩ [(a0, u)]) (S : FnScope N [a0] (defScope st)) (hm : m = runT N.length 1 g)
    (hb : ∀ (ex : Option XV) (base : Heap) (f : Addr) (cdv : Value) (A : Around) (outer : List Env) (s : Shared) (H : Hp) (E : XK), Room k (A.deeper (envOfC x (defScope st) s.heap.objs.size f cdv)) → PSs (cxOf (L2.CX P w) P w K mg base N x (defScope st) f cdv A outer s H E) (defBody st) (TST K mg ex (fun cls d _ H' => E cls d H') g))
    (hl : ∀ ns : List Int, ns.length ≤ 63 → ∃ mu, m [scr ns] [] = (.ok (.bl true), mu)) :
    ∃ fd : FuncData, (∀ (s : Shared) (u : Value), BindsTo s fd ⟨[u], []⟩ [(a0, u)]) ∧ ∀ base : Heap, K.In base → base.Ns mainGlobals mg → FnOk P w K mg base (L2.CX P w) (k + 1) fa fd [a0] (spL K) := by
  have e := hfa.symm.trans (PySem.W.mg_of X G a)
  cases e
  exact ⟨_, hb1, fun base _ _ => law_impT (m := m) (fnT_ok (fun_mk l c kp) S rfl hm (fun ex => hb ex base _)) hl⟩
end
end DL

namespace DL
open PySem PySem.Spec PyProof.Rows L2

/-! ### sums of tuples too -/
def rSumT (K : PySem.W.Frag) : List V → Hp → VK → Prop := fun vs H Q => ∃ (a : Addr) (ns : List Int), vs = [V.ref a] ∧ (SqL K H a (ns.map V.int) ∨ SqT K H a (ns.map V.int)) ∧ Q (.int ns.sum) H
theorem cr_sumT {X : Cx} (hc : X.calm = true) : CallR X (.builtin "sum") (rSumT X.K) := by
  intro pins s σ H vs us Q I r h
  obtain ⟨a, ns, rfl, h1 | h1, q⟩ := h
  · exact cr_sum hc pins s σ H _ us Q I r ⟨a, ns, rfl, h1, q⟩
  · obtain ⟨its, rv, ht, _⟩ := I.tuple h1
    rw [Vals.ref1 r]
    obtain ⟨xs, e⟩ := rv.ints.allInts.items
    have hn : numsOf (intItems xs).toList = ns := by rw [← e]; exact rv.ints.numsOf
    rw [nums_intItems] at hn
    rw [e] at ht
    refine PySem.W.ktm_sumG (I.ok.hd hc) ht fun h' tk t' hk => ⟨.int _, H, I.kept hk, ⟨t', ?_⟩, q⟩
    rw [preSum_eq, List.take_of_length_le (by simp), hn]
def gSumA : List D → Option D
  | [d] => d.items.bind fun es => (intsD es).map fun ns => .int ns.sum
  | _ => none
theorem ci_sumA {G : Gd} : CallI G (rSumT G.K) gSumA := fun B H ds xs z Q s rr hz k => by
  unfold gSumA at hz
  split at hz
  · rename_i d
    cases hi : d.items with
    | none => rw [hi] at hz; cases hz
    | some es =>
      rw [hi] at hz
      have hz : (intsD es).map (fun ns => D.int ns.sum) = some z := hz
      cases hn : intsD es with
      | none => rw [hn] at hz; cases hz
      | some ns =>
        rw [hn] at hz
        cases hz
        obtain ⟨v, rfl, r1⟩ := rdbs1 rr
        obtain ⟨a, vs, rfl, h, q⟩ := rdb_seq s r1 hi
        have e := reps_ints q hn
        subst e
        exact ⟨a, ns, rfl, h, k _ B H (Ext.refl s) rep_int⟩
  · cases hz

/-! ### two lists side by side -/
def zipD (xs ys : List D) : List D := List.zipWith (fun x y => .tup [x, y]) xs ys
theorem walk_zip {G : Gd} {B1 : Hp} {a b : Addr} {xs ys : List V} {ds es : List D} (h1 : ∀ B H, Same B1 B → Same B H → SqL G.K H a xs) (h2 : ∀ B H, Same B1 B → Same B H → SqL G.K H b ys) (r1 : Reps G B1 ds xs) (r2 : Reps G B1 es ys) : DWalk G B1 (Itz G.K a b) (zipD ds es) where
  goes := fun i B H hi s t => by
    have l1 := reps_len r1
    have l2 := reps_len r2
    unfold zipD at hi
    rw [List.length_zipWith] at hi
    exact ⟨xs, ys, xs[i]'(by omega), ys[i]'(by omega), h1 B H s t, h2 B H s t, List.getElem?_eq_getElem _, List.getElem?_eq_getElem _⟩
  stops := fun B H s t => by
    have l1 := reps_len r1
    have l2 := reps_len r2
    refine ⟨xs, ys, h1 B H s t, h2 B H s t, ?_⟩
    unfold zipD
    rw [List.length_zipWith]
    omega
  ylds := fun i B H v H' hi s t y => by
    obtain ⟨T, x, y, rfl, hT, rfl, y1, y2⟩ := y
    obtain ⟨d, hd, rd⟩ := reps_get' r1 (y1 xs (h1 B H s t))
    obtain ⟨e, he, re⟩ := reps_get' r2 (y2 ys (h2 B H s t))
    have x1 : Ext B H (upd B T (.tup [x, y])) (upd H T (.tup [x, y])) := Ext.new t hT
    refine ⟨_, _, x1, ?_, rep_tup upd_same (reps_cons (rep_mono x1.b _ _ (rep_mono s _ _ rd)) (reps_one (rep_mono x1.b _ _ (rep_mono s _ _ re))))⟩
    unfold zipD
    rw [List.getElem?_zipWith, hd, he]
def lstD : D → Option (List D)
  | .lst xs => some xs
  | .fls xs => some xs
  | _ => none
def iZ (f : Sto → M (List D)) : Sto → M (List D) := fun ρ => match f ρ with
  | .ok [x, y] => (match lstD x, lstD y with
    | some xs, some ys => .ok (zipD xs ys)
    | _, _ => .error .stuck)
  | .ok _ => .error .stuck
  | .error e => .error e
theorem lstD_sq {G : Gd} {B H : Hp} {d : D} {v : V} {ds : List D} (s : Same B H) (r : Rep G B d v) (h : lstD d = some ds) : ∃ a xs, v = .ref a ∧ SqL G.K B a xs ∧ Reps G B ds xs := by
  cases d with
  | lst ds => cases h; simp only [Rep] at r; obtain ⟨a, xs, e, q, rs⟩ := r; exact ⟨a, xs, e, .of q, rs⟩
  | fls ds => cases h; simp only [Rep] at r; obtain ⟨a, xs, e, q, rs⟩ := r; exact ⟨a, xs, e, q, rs⟩
  | _ => cases h
theorem di_zip {X : Cx} {W : WX} {x1 x2 : Expr} {g : Sto → M (List D)} {p pos tpos : Pos} {elts : List Expr} {kk : Nat} (hm : X.mg "zip" = none) (ha : PA X [x1, x2] (TAD (gd X al mu ex) W g)) (hg : Gl X "zip" := by rfl)
    (hs : starEach [x1, x2] X.env = (false, eval x1 X.env) :: starEach [x2] X.env := by rfl) (hpl : (backTo pos (starEach [x2] X.env)).any (·.1) = false := by rfl) :
    PI X (.Tuple elts kk tpos) (.Call (.Name "zip" p) [x1, x2] [] pos) (TID (gd X al mu ex) W (iZ g)) := (pi_zip hg hm ha hs hpl).wk fun σ H R ⟨B0, H0, B, ρ, S, q⟩ => by
  unfold iZ at q
  refine tad_i S (fun er h => by rw [h] at q; exact q) fun vs H1 B1 ds x r e => ?_
  rw [e] at q
  match ds, r, q with
  | [], r, q => exact q.elim
  | [_], r, q => exact q.elim
  | _ :: _ :: _ :: _, r, q => exact q.elim
  | [d, d'], r, q =>
    dsimp only at q
    cases h1 : lstD d with
    | none => rw [h1] at q; exact q.elim
    | some xs =>
      cases h2 : lstD d' with
      | none => rw [h1, h2] at q; exact q.elim
      | some ys =>
        rw [h1, h2] at q
        simp only [Reps] at r
        obtain ⟨v, t, rfl, ra, v2, t2, rfl, rb, rfl⟩ := r
        obtain ⟨a, us, rfl, ha, ra⟩ := lstD_sq x.i' ra h1
        obtain ⟨b, ws, rfl, hb, rb⟩ := lstD_sq x.i' rb h2
        exact ⟨a, b, us, ws, rfl, sql_mono x.i' ha, sql_mono x.i' hb, q _ B1 H1 x (walk_zip (fun B H s t => sql_mono t (sql_mono s ha)) (fun B H s t => sql_mono t (sql_mono s hb)) ra rb)⟩

/-! ### a, b = a list -/
def gLs (n : Nat) (bs : List D → Sto → Option Sto) : D → Sto → Option Sto
  | .lst ds, ρ => if ds.length = n then bs ds ρ else none
  | .fls ds, ρ => if ds.length = n then bs ds ρ else none
  | _, _ => none
theorem dg_ls {X : Cx} {pos : Pos} {es : List Expr} {k : Nat} {bs : List D → Sto → Option Sto} {is : List Nat} {n : Nat} (hc : X.calm = true) (h : PGs X es (TGsD (gd X al mu ex) bs is))
    (hn : (assignEach es X.env).length = n := by rfl) (hst : (assignEach es X.env).findIdx? (·.1) = none := by rfl) : PG X (.Tuple es k pos) (TGD (gd X al mu ex) (gLs n bs) is) := (pg_lst hc h hn hst).wk fun v σ H Q ⟨B0, H0, B, ρ, d, ρ', S, r, e, q⟩ => by
  cases d with
  | lst ds =>
    simp only [gLs] at e
    split at e
    · rename_i hl
      simp only [Rep] at r
      obtain ⟨a, xs, rfl, ha, rs⟩ := r
      exact ⟨a, xs, rfl, .of (S.ext.i' _ _ ha), by rw [reps_len rs]; exact hl, B0, H0, B, ρ, ds, ρ', S, rs, e, q⟩
    · cases e
  | fls ds =>
    simp only [gLs] at e
    split at e
    · rename_i hl
      simp only [Rep] at r
      obtain ⟨a, xs, rfl, ha, rs⟩ := r
      exact ⟨a, xs, rfl, sql_mono S.ext.i' ha, by rw [reps_len rs]; exact hl, B0, H0, B, ρ, ds, ρ', S, rs, e, q⟩
    · cases e
  | _ => cases e

/-! ### a module's tuple of whole numbers -/
structure TupT (K : PySem.W.Frag) (mg : Str → Option Value) (x : Str) (ns : List Int) : Prop where
  ex : ∃ a, mg x = some (.ref a) ∧ ∀ H, SqT K H a (ns.map V.int)
def tupI (ns : List Int) : D := .ctp (ns.map D.int)
theorem TupT.de {al : List Addr} {mu : Tbl} {ex : Option XV} {X : Cx} {W : WX} {x : Str} {pos : Pos} {ns : List Int} (T : TupT X.K X.mg x ns) (hg : Gl X x) (hd : (x == ("__debug__" : Str)) = false := by decide) : PE X (.Name x pos) (TD (gd X al mu ex) W (eC (tupI ns))) :=
  let ⟨_, h1, h2⟩ := T.ex
  de_globT hg h1 h2 (fun _ => reps_map_int ns) hd
theorem vals_tk : ∀ (ns : List Int) (ts : List Tok), ts.length = ns.length → Vals (ns.map V.int) (List.zipWith (fun n t => Value.int n t) ns ts)
  | [], [], _ => .nil
  | n :: ns, t :: ts, h => .cons ⟨t, rfl⟩ (vals_tk ns ts (by simpa using h))
  | [], _ :: _, h => by simp at h
  | _ :: _, [], h => by simp at h
theorem tup_mk {K : PySem.W.Frag} {mg : Str → Option Value} {h : Heap} {x : Str} {a : Addr} {ns : List Int} {o : Obj} {its : Array Value} {n : Nat} (X : K.In h) (G : h.Ns mainGlobals mg) (e : PySem.W.nsIn K mainGlobals x = some (some (.ref a)))
    (l : K.lookup a = some o) (c : o.cls = .type "tuple") (d : o.data = .seq its n) (z : its.size ≤ sizeLine) (v : Vals (ns.map V.int) its.toList) : TupT K mg x ns :=
  ⟨a, PySem.W.mg_of X G e, fun _ => .inr ⟨o, its, n, l, c, d, z, v⟩⟩

/-! ### what is not come to -/
def sWall : Sto → Res := fun ρ => .er .stuck ρ
theorem ds_wall {X : Cx} {W : WX} {st : Stmt} : PS X st (TSD (gd X al mu ex) W sWall) := ⟨fun pins s σ H Dn I ⟨B0, H0, B, ρ, S, q⟩ => (q σ B H S).elim⟩

/-! ### a new list takes one thing and is thrown away -/
def sAppX (f g : Sto → M D) : Sto → Res := fun ρ => match f ρ with
  | .error e => .er e ρ
  | .ok (.lst ds) => (match g ρ with
    | .error e => .er e ρ
    | .ok d => if lim ds.length then .nx ρ else .er .stuck ρ)
  | .ok _ => .er .stuck ρ
theorem ds_appX {X : Cx} {W : WX} {o e : Expr} {f g : Sto → M D} {pos apos cpos : Pos} (ho : PE X o (TF (gd X al mu ex) W f)) (he : PE X e (TD (gd X al mu ex) W g))
    (hbase : attributeBase o "append" X.env (eval o X.env) = eval o X.env := by rfl)
    (hfew : ((backTo cpos (starEach (e :: []) X.env)).all (fun x => !x.1) && (backToKw cpos (keywordEach [] X.env)).all (fun x => x.1.isSome)
      && decide ((e :: []).length + ([] : List Keyword).length + (if ([] : List Keyword).isEmpty then 0 else 1) < 30)) = true := by rfl)
    (hline : (apos.endLine == cpos.line) = true := by rfl) (hs : starEach (e :: []) X.env = (false, eval e X.env) :: starEach [] X.env := by rfl) (hsw : swapsWith (.Call (.Attribute o "append" apos) [e] [] cpos) none pos.line X.env = pure false := by rfl) :
    PS X (.Expr (.Call (.Attribute o "append" apos) [e] [] cpos) pos) (TSD (gd X al mu ex) W (sAppX f g)) :=
  (ps_expr (pe_bm PySem.F.plainAttrs_list PySem.F.slot_list_append PySem.F.type_list_append mt_append ho (pa_cons he pa_nil hs) hbase hfew hline hs rfl) hsw).wk fun Dn σ H ⟨B0, H0, B, ρ, S, q⟩ => by
    unfold sAppX at q
    refine tf_i S (fun er h => by rw [h] at q; exact q σ B H S) fun p H1 B1 d x1 h1 h2 h3 e1 => ?_
    rw [e1] at q
    cases d with
    | lst ds =>
      dsimp only at q
      obtain ⟨xs, h4, rs⟩ := h3
      refine ⟨.inl ⟨rfl, xs, .of h4⟩, td_i (S.mono x1) (fun er h => by rw [h] at q; exact q σ B1 H1 (S.mono x1)) fun v H2 B2 d x2 r e => ?_⟩
      rw [e] at q
      dsimp only at q
      split at q
      · rename_i hl
        have x3 := x1.trans x2
        have h5 := x2.h _ _ h4
        have b2 : B2 p = none := by rw [x2.n p (by rw [h4]; simp)]; exact h2
        refine ⟨p, xs, v, rfl, rfl, h5, by rw [reps_len rs]; exact lim_lt hl, q σ B2 _ (S.mono ⟨x3.i, x3.b, fun a u e => ?_, fun a u e => ?_, x3.n⟩)⟩
        · rw [upd_ne (ne_of_none e b2)]; exact x3.i' a u e
        · rw [upd_ne (ne_of_none e h1)]; exact x3.h a u e
      · exact (q σ B2 H2 (S.mono (x1.trans x2))).elim
    | _ => exact (q σ B1 H1 (S.mono x1)).elim
end DL

namespace DL
open PySem PySem.Spec PyProof.Rows L2

/-! ### a list that several may know, where a list is read -/
def resC (mu : Tbl) : D → D
  | .hdl n => (match mu[n]? with
    | some (.lst ds) => .lst ds
    | _ => .hdl n)
  | d => d
theorem resC_lst {mu : Tbl} {n : Nat} {ds : List D} (h : mu[n]? = some (.lst ds)) : resC mu (.hdl n) = .lst ds := by
  show (match mu[n]? with | some (.lst ds) => D.lst ds | _ => .hdl n) = _
  rw [h]
theorem resC_no {mu : Tbl} {n : Nat} (h : ∀ ds, mu[n]? ≠ some (.lst ds)) : resC mu (.hdl n) = .hdl n := by
  show (match mu[n]? with | some (.lst ds) => D.lst ds | _ => .hdl n) = _
  split
  · rename_i ds e
    exact (h ds e).elim
  · rfl
def eCv (mu : Tbl) (i : Nat) : Sto → M D := fun ρ => (eRd i ρ).map (resC mu)
theorem dr_cv {X : Cx} {W : WX} {pos : Pos} (i : Nat) {x : Str} (hN : X.N[i]? = some x := by rfl) (hv : Vis X.env.scope x := by first | exact Or.inl rfl | exact Or.inr (Or.inl rfl) | exact Or.inr (Or.inr rfl)) (hd : (x == ("__debug__" : Str)) = false := by decide)
    (hcd : (x == ("__classdict__" : Str)) = false := by decide) : PE X (.Name x pos) (TR (gd X al mu ex) W (eCv mu i)) := (dr_var (al := al) (mu := mu) (W := W) i hN hv hd hcd).wk fun σ H Q ⟨B0, H0, B, ρ, S, q⟩ => by
  unfold eCv at q
  refine tr_i S (fun er h => by rw [h] at q; exact q) fun v H1 B1 d x r e => ?_
  rw [e] at q
  have q' : RPost (gd X al mu ex) W B H σ Q (.ok (resC mu d)) := q
  cases d with
  | hdl n =>
    cases hm : mu[n]? with
    | none =>
      have e2 : resC mu (.hdl n) = .hdl n := resC_no fun ds h => by rw [hm] at h; cases h
      rw [e2] at q'
      exact q' v B1 H1 x r
    | some c =>
      cases c with
      | obj c fs =>
        have e2 : resC mu (.hdl n) = .hdl n := resC_no fun ds h => by rw [hm] at h; cases h
        rw [e2] at q'
        exact q' v B1 H1 x r
      | lst ds =>
        have e2 : resC mu (.hdl n) = .lst ds := resC_lst hm
        rw [e2] at q'
        rcases r with r | ⟨p, _, _, h3⟩
        · obtain ⟨n', a, en, rfl, h1, h2, h3, xs, h4, rf⟩ := cellOf_at (S.tb.mono x) r hm
          exact q' (.ref a) B1 H1 x (.inr ⟨a, rfl, h3, xs, h4, rf⟩)
        · exact h3.elim
  | _ => exact q' v B1 H1 x r

/-! ### data without handles; a call that only reads -/
mutual
def hfree : D → Bool
  | .non => true
  | .bl _ => true
  | .int _ => true
  | .str _ => true
  | .lst ds => hfrees ds
  | .fls ds => hfrees ds
  | .tup ds => hfrees ds
  | .ctp ds => hfrees ds
  | .dic _ => false
  | .obj _ _ => false
  | .hdl _ => false
def hfrees : List D → Bool
  | [] => true
  | d :: ds => hfree d && hfrees ds
end
section
variable {K : PySem.W.Frag} {mg : Str → Option Value} {al al' : List Addr} {mu mu' : Tbl} {B : Hp}
mutual
theorem rep_hfree : ∀ (d : D) (v : V), hfree d = true → Rep ⟨K, mg, al, mu, ex⟩ B d v → Rep ⟨K, mg, al', mu', ex⟩ B d v
  | .non, v, _, r => by simpa only [Rep] using r
  | .bl b, v, _, r => by simpa only [Rep] using r
  | .int i, v, _, r => by simpa only [Rep] using r
  | .str x, v, _, r => by simpa only [Rep] using r
  | .lst ds, v, h, r => by
    simp only [Rep, hfree] at r h ⊢
    obtain ⟨a, xs, e, q, rs⟩ := r
    exact ⟨a, xs, e, q, reps_hfree ds xs h rs⟩
  | .fls ds, v, h, r => by
    simp only [Rep, hfree] at r h ⊢
    obtain ⟨a, xs, e, q, rs⟩ := r
    exact ⟨a, xs, e, q, reps_hfree ds xs h rs⟩
  | .tup ds, v, h, r => by
    simp only [Rep, hfree] at r h ⊢
    obtain ⟨a, xs, e, q, rs⟩ := r
    exact ⟨a, xs, e, q, reps_hfree ds xs h rs⟩
  | .ctp ds, v, h, r => by
    simp only [Rep, hfree] at r h ⊢
    obtain ⟨a, xs, e, q, rs⟩ := r
    exact ⟨a, xs, e, q, reps_hfree ds xs h rs⟩
  | .dic _, v, h, r => by simp [hfree] at h
  | .obj _ _, v, h, r => by simp [hfree] at h
  | .hdl _, v, h, r => by simp [hfree] at h
theorem reps_hfree : ∀ (ds : List D) (vs : List V), hfrees ds = true → Reps ⟨K, mg, al, mu, ex⟩ B ds vs → Reps ⟨K, mg, al', mu', ex⟩ B ds vs
  | [], vs, _, r => by simpa only [Reps] using r
  | d :: ds, vs, h, r => by
    simp only [Reps, hfrees, Bool.and_eq_true] at r h ⊢
    obtain ⟨v, t, e, r1, r2⟩ := r
    exact ⟨v, t, e, rep_hfree d v h.1 r1, reps_hfree ds t h.2 r2⟩
end
end
def resA (mu : Tbl) (d : D) : Option D := if hfree (resC mu d) then some (resC mu d) else none
def resAs (mu : Tbl) : List D → Option (List D)
  | [] => some []
  | d :: ds => (resA mu d).bind fun d' => (resAs mu ds).map fun ds' => d' :: ds'
def flatD : D → Bool
  | .non => true
  | .bl _ => true
  | .int _ => true
  | .str _ => true
  | _ => false
def eFnB (mu : Tbl) (m : List D → M D) (f : Sto → M (List D)) : Sto → M D := fun ρ => (f ρ).bind fun ds => match resAs mu ds with
  | none => .error .stuck
  | some es => (m es).bind fun d => if flatD d then .ok d else .error .stuck
open Classical in
/-- what may be changed is seen for a while -/
noncomputable def seen (al : List Addr) (B H : Hp) : Hp := fun a => if a ∈ al then H a else B a
open Classical in
noncomputable def unseen (al : List Addr) (B : Hp) : Hp := fun a => if a ∈ al then none else B a
section
variable {K : PySem.W.Frag} {mg : Str → Option Value} {al : List Addr} {mu : Tbl} {B H B' H' : Hp}
theorem seen_same (t : TbOk ⟨K, mg, al, mu, ex⟩ B H) : Same B (seen al B H) := fun a o e => by
  unfold seen
  rw [if_neg fun h => by rw [(t.get h).1] at e; cases e]
  exact e
theorem seen_in (i : Same B H) : Same (seen al B H) H := fun a o e => by
  unfold seen at e
  split at e
  · exact e
  · exact i a o e
theorem unsee (t : TbOk ⟨K, mg, al, mu, ex⟩ B H) (i : Same B H) (x : Ext (seen al B H) H B' H') : Ext B H (unseen al B') H' := by
  refine ⟨i, fun a o e => ?_, fun a o e => ?_, x.h, fun a h => ?_⟩
  · unfold unseen
    rw [if_neg fun h => by rw [(t.get h).1] at e; cases e]
    exact x.b a o (seen_same t a o e)
  · unfold unseen at e
    split at e
    · cases e
    · exact x.i' a o e
  · unfold unseen
    split
    · rename_i ha
      rw [(t.get ha).1]
    · rename_i ha
      rw [x.n a h]
      unfold seen
      rw [if_neg ha]
theorem resAs_rep (t : TbOk ⟨K, mg, al, mu, ex⟩ B H) : ∀ {ds es : List D} {vs : List V}, Reps ⟨K, mg, al, mu, ex⟩ B ds vs → resAs mu ds = some es → Reps ⟨K, mg, [], [], ex⟩ (seen al B H) es vs ∧ es.length = ds.length
  | [], es, vs, r, h => by
    cases h
    simp only [Reps] at r
    exact ⟨by simp only [Reps]; exact r, rfl⟩
  | d :: ds, es, vs, r, h => by
    simp only [Reps] at r
    obtain ⟨v, w, rfl, r1, r2⟩ := r
    simp only [resAs] at h
    unfold resA at h
    by_cases hf : hfree (resC mu d) = true
    · rw [if_pos hf] at h
      cases hr : resAs mu ds with
      | none => rw [hr] at h; cases h
      | some fs =>
        rw [hr] at h
        cases h
        obtain ⟨q1, q2⟩ := resAs_rep t r2 hr
        refine ⟨reps_cons ?_ q1, by rw [List.length_cons, List.length_cons, q2]⟩
        have same := rep_mono (G := ⟨K, mg, al, mu, ex⟩) (seen_same t)
        cases d with
        | hdl n =>
          cases hm : mu[n]? with
          | none => rw [resC_no fun ds h => by rw [hm] at h; cases h] at hf; cases hf
          | some c =>
            cases c with
            | obj c fs => rw [resC_no fun ds h => by rw [hm] at h; cases h] at hf; cases hf
            | lst xs =>
              have e2 : resC mu (.hdl n) = .lst xs := resC_lst hm
              rw [e2] at hf ⊢
              obtain ⟨n', a, en, rfl, h1, h2, h3, us, h4, rf⟩ := cellOf_at t r1 hm
              simp only [Rep]
              refine ⟨a, us, rfl, ?_, ?_⟩
              · unfold seen
                rw [if_pos (List.mem_of_getElem? h1)]
                exact h4
              · simp only [hfree] at hf
                exact reps_hfree xs us hf (reps_mono (seen_same t) _ _ rf)
        | _ => exact rep_hfree _ _ hf (same _ _ r1)
    · rw [if_neg hf] at h; cases h
end
theorem de_fnB {X : Cx} {W : WX} {x : Str} {p pos : Pos} {e : Expr} {es : List Expr} {f : Sto → M (List D)} {k n : Nat} {m : Tbl → List D → M D} (F : FnR X.prog X.w X.K X.mg X.base k x n m) (hr : Room k X.A) (tk : Takes X W) (ha : PA X (e :: es) (TAD (gd X al mu ex) W f)) (hl : LenA f n := by repeat (first | exact len_nil | refine len_cons ?_)) (hg : Gl X x := by rfl) (hdb : (x == ("__debug__" : Str)) = false := by decide)
    (he : starEach (e :: es) X.env = (false, eval e X.env) :: starEach es X.env := by rfl) (hpl : (backTo pos (starEach es X.env)).any (·.1) = false := by rfl) :
    PE X (.Call (.Name x p) (e :: es) [] pos) (TD (gd X al mu ex) W (eFnB mu (m []) f)) := by
  obtain ⟨fa, fd, ps, F, hm, hk, hb⟩ := F.ex
  refine ⟨fun pins s σ H Q I ⟨B0, H0, B, ρ, S, q⟩ => ?_⟩
  unfold eFnB at q
  refine wpAny_Call_Name_kw (ld_glob I hg hm ?_ hdb)
  refine PySem.W.callWith_K (h₀ := X.base) I.ok.mod.kin hk (thn (ha.run pos pins s σ H (fun vs H1 => ∃ B1 ds, Ext B H B1 H1 ∧ Reps (gd X al mu ex) B1 ds vs ∧ f ρ = .ok ds) I (tad_i S (fun er h => by rw [h] at q; exact q) fun vs H1 B1 ds x r e => ⟨B1, ds, x, r, e⟩)) fun us s1 ⟨vs, H1, I1, r, B1, ds, x, rr, e1⟩ => ⟨I1.kIn, ?_⟩) he hpl
  rw [e1] at q
  have t1 := S.tb.mono x
  have q1 : DPost (gd X al mu ex) W B H σ Q (match resAs mu ds with
    | none => .error .stuck
    | some es => (m [] es).bind fun d => if flatD d then .ok d else .error .stuck) := q
  cases hres : resAs mu ds with
  | none => rw [hres] at q1; exact q1.elim
  | some es =>
    rw [hres] at q1
    obtain ⟨r3, len⟩ := resAs_rep t1 rr hres
    refine run_fnS F hr hb (passAt tk σ) I1 r ⟨[], [], ex, seen al B1 H1, es, by rw [len]; exact hl ρ ds e1, seen_in x.i', ⟨rfl, fun i j a h => by simp at h, fun n a c h => by simp at h⟩, r3, ?_⟩
    have q2 : DPost (gd X al mu ex) W B H σ Q ((m [] es).bind fun d => if flatD d then .ok d else .error .stuck) := q1
    cases hmm : m [] es with
    | ok d =>
      rw [hmm] at q2
      have q3 : DPost (gd X al mu ex) W B H σ Q (if flatD d then .ok d else .error .stuck) := q2
      split at q3
      · rename_i hf
        intro v B' H' x2 r2
        refine q3 v _ H' (x.trans (unsee t1 x.i' x2)) ?_
        cases d with
        | non => simpa only [Rep] using r2
        | bl b => simpa only [Rep] using r2
        | int b => simpa only [Rep] using r2
        | str b => simpa only [Rep] using r2
        | _ => cases hf
      · exact q3.elim
    | error er =>
      rw [hmm] at q2
      cases er with
      | stuck => exact q2
      | exc c a => exact fun Ca dA B' H' m' x2 xd => q2 Ca dA _ H' m' (x.trans (unsee t1 x.i' x2)) (xd.mono x.h)

/-! ### an item of a list that several may know is changed -/
def sPutC (o fk f : Tbl → Sto → M D) : TS1 := fun mu ρ => match f mu ρ with
  | .error e => (.er e ρ, mu)
  | .ok d => match o mu ρ with
    | .error e => (.er e ρ, mu)
    | .ok (.hdl n) => (match lstOf mu (.hdl n) with
      | none => (.er .stuck ρ, mu)
      | some ds => match fk mu ρ with
        | .error e => (.er e ρ, mu)
        | .ok (.int j) => (match ixN ds.length j with
          | some i => (.nx ρ, mu.set n (.lst (ds.set i d)))
          | none => (.er .stuck ρ, mu))
        | .ok _ => (.er .stuck ρ, mu))
    | .ok _ => (.er .stuck ρ, mu)
theorem ts_putC {X : Cx} {W : WX} {e k o : Expr} {fo fk f : Tbl → Sto → M D} {pos tpos : Pos} (he : ∀ al mu, PE X e (TD (gd X al mu ex) W (f mu))) (ho : ∀ al mu, PE X o (TD (gd X al mu ex) W (fo mu))) (hk : ∀ al mu, PE X k (TD (gd X al mu ex) W (fk mu)))
    (ha : ∀ v, assign (.Subscript o k tpos) X.env v = (do
      let ov ← holding [v] (eval o X.env)
      let iv ← holding [v, ov] (eval k X.env)
      standAt tpos
      holding [v, ov, iv] (setItem ov iv v)
      release [v, ov, iv] []) := by intro _; rfl)
    (hs : swapsWithSole [.Subscript o k tpos] e pos.line X.env = pure false := by rfl) (hw : swappedStores [.Subscript o k tpos] e X.env = pure none := by rfl) (h1 : (assignEach [.Subscript o k tpos] X.env).map (·.2) = [assign (.Subscript o k tpos) X.env] := by rfl) :
    PS X (.Assign [.Subscript o k tpos] e pos) (TST X.K X.mg ex W (sPutC fo fk f)) :=
  (ps_asg (pe_ex he) (pg_sub (pe_ex ho) (pe_ex hk) set_list ha) hs hw h1).wk fun Dn σ H ⟨al0, B0, H0, al, mu, B, ρ, S, q⟩ => by
    unfold sPutC at q
    refine ⟨al, mu, td_i S.pure (fun er h => by rw [h] at q; exact q σ al B H S) fun v H1 B1 d x r e => ?_⟩
    rw [e] at q
    have S1 := S.mono x
    dsimp only at q
    refine ⟨al, mu, td_i S1.pure (fun er h => by rw [h] at q; exact q σ al B1 H1 S1) fun v2 H2 B2 d2 x2 r2 e2 => ?_⟩
    rw [e2] at q
    have S2 := S1.mono x2
    cases d2 with
    | hdl n =>
      dsimp only at q
      cases ho : lstOf mu (.hdl n) with
      | none => rw [ho] at q; exact (q σ al B H S).elim
      | some ds =>
        rw [ho] at q
        dsimp only at q
        obtain ⟨n', a, en, rfl, h1, h2, h3, xs, h4, rf⟩ := cellOf_at S2.tb r2 (lstOf_cell ho)
        cases en
        refine ⟨al, mu, td_i S2.pure (fun er h => by rw [h] at q; exact q σ al B2 H2 S2) fun w H3 B3 d3 x3 r3 e3 => ?_⟩
        rw [e3] at q
        have S3 := S2.mono x3
        cases d3 with
        | int j =>
          dsimp only at q
          cases hj : ixN ds.length j with
          | none => rw [hj] at q; exact (q σ al B H S).elim
          | some i =>
            rw [hj] at q
            simp only [Rep] at r3
            subst r3
            exact ⟨a, xs, j, i, rfl, rfl, x3.h _ _ h4, by rw [reps_len rf]; exact hj, q σ al B3 _ (S3.cell h1 ⟨_, upd_same, reps_set (reps_mono x3.b _ _ rf) (rep_mono (x2.trans x3).b _ _ r)⟩)⟩
        | _ => exact (q σ al B H S).elim
    | _ => exact (q σ al B H S).elim
end DL

namespace DL
open PySem PySem.Spec PyProof.Rows L2

/-- a while's measure: the whole number of a slot -/
def muOne (ρ : Sto) (i : Nat) : Nat := match ρ[i]? with
  | some (some (.sh (.int n))) => n.toNat + 1
  | _ => 1
/-- an own thing is shown, then the statement -/
def sFrzT (i : Nat) (g : TS1) : TS1 := fun mu ρ => match ρ[i]? with
  | some (some (.ow d)) => g mu (ρ.set i (some (.sh d)))
  | _ => g mu ρ
theorem ts_frz {X : Cx} {W : WX} {st : Stmt} {g : TS1} (i : Nat) (h : PS X st (TST X.K X.mg ex W g)) : PS X st (TST X.K X.mg ex W (sFrzT i g)) := h.wk fun Dn σ H ⟨al0, B0, H0, al, mu, B, ρ, S, q⟩ => by
  unfold sFrzT at q
  split at q
  · rename_i d hi
    obtain ⟨B', S', _⟩ := S.pure.freeze hi
    exact ⟨al0, B0, H0, al, mu, B', _, S.back S', q⟩
  · exact ⟨al0, B0, H0, al, mu, B, ρ, S, q⟩
section
variable {K : PySem.W.Frag} {mg : Str → Option Value} {h : Heap} {cn x qual : Str} {st : Stmt} {ps : List Str} {C f : Addr} {oc : Value} {od an : Option Addr} {osl : Array (Option Value)} {kV doc pm cdv ct : Value}
theorem cls_mk (X : K.In h) (G : h.Ns mainGlobals mg) (a : PySem.W.nsIn K mainGlobals cn = some (some (.ref C))) (pg : PySem.W.plainGet K C Str.empty = true) (hd : PySem.W.hasDictIn K C = true) (po : PySem.W.plainOver K C = true)
    (sa : PySem.W.findIn K (.ref C) "__setattr__" = some (some (.builtin "object.__setattr__"))) {fl : List Str} (hf : ∀ f ∈ fl, PySem.W.findIn K (.ref C) f = some none) : ClsT K mg cn fl :=
  ⟨C, PySem.W.mg_of X G a, ⟨pg, hd, po, sa⟩, hf⟩
theorem mf_mk (X : K.In h) (G : h.Ns mainGlobals mg) (a : PySem.W.nsIn K mainGlobals cn = some (some (.ref C))) (pg : PySem.W.plainGet K C Str.empty = true) (hd : PySem.W.hasDictIn K C = true) (po : PySem.W.plainOver K C = true)
    (sa : PySem.W.findIn K (.ref C) "__setattr__" = some (some (.builtin "object.__setattr__"))) (fi : PySem.W.findIn K (.ref C) x = some (some (.ref f))) (fn : PySem.W.isFn K (.ref f) = true)
    (l : K.lookup f = some ⟨oc, od, .func (PySem.W.fnOf x qual (defArgs st) (defBody st) (defScope st) .none kV doc pm an cdv ct), osl⟩) (c : PySem.W.codeIn K cdv qual = true) (k : PySem.W.keepIn K (.ref f) = true)
    (hb : ∀ (kV doc pm : Value) (an : Option Addr) (cdv ct : Value) (us : List Value), us.length = ps.length → bindArgs (PySem.W.fnOf x qual (defArgs st) (defBody st) (defScope st) .none kV doc pm an cdv ct) ⟨us, []⟩ = pure (ps.zip us)) : MF1 K mg cn x qual st ps :=
  ⟨C, f, _, PySem.W.mg_of X G a, fun_mk l c k, ⟨pg, hd, po, sa⟩, ⟨fi, fn, k⟩, (fun_mk l c k).binds hb⟩
theorem if_mk (X : K.In h) (G : h.Ns mainGlobals mg) (a : PySem.W.nsIn K mainGlobals cn = some (some (.ref C))) (mk : PySem.W.makesIn K C = true) (kc : PySem.W.keepIn K (.ref C) = true) (fi : PySem.W.findIn K (.ref C) "__init__" = some (some (.ref f))) (fn : PySem.W.isFn K (.ref f) = true)
    (l : K.lookup f = some ⟨oc, od, .func (PySem.W.fnOf "__init__" qual (defArgs st) (defBody st) (defScope st) .none kV doc pm an cdv ct), osl⟩) (c : PySem.W.codeIn K cdv qual = true) (k : PySem.W.keepIn K (.ref f) = true)
    (hb : ∀ (kV doc pm : Value) (an : Option Addr) (cdv ct : Value) (us : List Value), us.length = ps.length → bindArgs (PySem.W.fnOf "__init__" qual (defArgs st) (defBody st) (defScope st) .none kV doc pm an cdv ct) ⟨us, []⟩ = pure (ps.zip us)) : IF1 K mg cn qual st ps :=
  ⟨C, f, _, PySem.W.mg_of X G a, fun_mk l c k, ⟨mk, fi, fn, kc⟩, (fun_mk l c k).binds hb⟩
end
end DL

namespace DL
open PySem PySem.Spec PyProof.Rows L2

/-! ### errors of the program's own that hold a number -/
/-- what the written part says of DueError, whose __init__ is ValueError's -/
structure DueT (K : PySem.W.Frag) (mg : Str → Option Value) : Prop where
  ex : ∃ D, mg "DueError" = some (.ref D) ∧ PySem.W.specialIn K (.ref D) "__getattribute__" = some (some (.builtin "type.__getattribute__")) ∧ PySem.W.typeIn K (.ref D) = some (.type "type") ∧ PySem.W.readsIn K D (.type "type") = true ∧
    PySem.W.findCls K (.ref D) (.type "type") "__init__" = some (.val (.builtin "ValueError.__init__"))
def spX (C : Addr) : Sp := fun vs H Q E => ∃ (a : Addr) (i : Int), vs = [.ref a, .int i] ∧ H a = some (exo a C none) ∧ ∀ d, H d = none → d ≠ a → Q .non (upd (upd H d (exd d [(("at" : Str), .int i)])) a (exo a C (some d)))
structure AtT (P : Program) (w : World) (K : PySem.W.Frag) (mg : Str → Option Value) (base : Heap) (k : Nat) (c : EC) : Prop where
  ex : ∃ C f fd ps, mg c.name = some (.ref C) ∧ OexC K C ∧ PySem.W.findIn K (.ref C) "__init__" = some (some (.ref f)) ∧ PySem.W.typeIn K (.ref f) = some (.type "function") ∧ FnOk P w K mg base (L2.CX P w) k f fd ps (spX C) ∧ Binds K fd ps []
structure OE1 (K : PySem.W.Frag) (mg : Str → Option Value) (c : EC) (qual : Str) (st : Stmt) (ps : List Str) : Prop where
  ex : ∃ C f fd, mg c.name = some (.ref C) ∧ OexC K C ∧ PySem.W.findIn K (.ref C) "__init__" = some (some (.ref f)) ∧ PySem.W.typeIn K (.ref f) = some (.type "function") ∧ PySem.W.findIn K (.ref C) "at" = some none ∧ Fun K "__init__" qual st f fd ∧ Binds K fd ps []
section
variable {X : Cx} {e : Expr} {es : List Expr} {ta : TA} {p1 p2 pos : Pos}
theorem pe_dinit (T : DueT X.K X.mg) (ha : PA X (e :: es) ta) {pl : Sem Bool} (hg : Gl X "DueError" := by rfl)
    (ht : eval (.Call (.Attribute (.Name "DueError" p1) "__init__" p2) (e :: es) [] pos) X.env = (do
      let ov ← eval (.Name "DueError" p1) X.env
      standAt p2.atName
      let (f, first) ← holding [ov] (getMethod ov "__init__" pl)
      callWith pos f first (backTo pos (starEach (e :: es) X.env)) (backToKw pos (keywordEach [] X.env))) := by rfl)
    (hst : starEach (e :: es) X.env = (false, eval e X.env) :: starEach es X.env := by rfl) (hpl : (backTo pos (starEach es X.env)).any (·.1) = false := by rfl) :
    PE X (.Call (.Attribute (.Name "DueError" p1) "__init__" p2) (e :: es) [] pos) (tVeI X.K ta) := by
  obtain ⟨D, hm, h1, h2, h3, h4⟩ := T.ex
  refine ⟨fun pins s σ H Q I h => ?_⟩
  refine PySem.W.methodCall_KW (ld_glob I hg hm ?_ (by decide)) ht
  obtain ⟨m, fr⟩ := I.fr
  refine PySem.W.method_of_cls fr I.ok.mod.kin h1 (PySem.W.cls_val fr I.ok.mod.kin h2 h3 h4 (by decide +kernel) ?_)
  show wpAny _ _ (callWith pos (Value.builtin "ValueError.__init__") [] (backTo pos (starEach (e :: es) X.env)) []) _ _ _
  refine PyProof.Rows.callWith_method1 (thn (ha.run pos pins _ σ H _ (I.tok _) h) fun us s1 hh => ?_) hst hpl
  obtain ⟨vs, H1, I1, rr, a, C, ws, ev, hl, T1, ea, q⟩ := hh
  subst ev
  cases rr with
  | @cons _ z0 _ zr ra rz =>
    obtain rfl : z0 = Value.ref a := ra
    refine oinit_ok T1 I1 ea ?_ fun s' J => ⟨.non, H1, J, rfl, q⟩
    rw [← Paired.length rz, sizeLine_eq]
    omega
end
def tXi (K : PySem.W.Frag) (m : Str) : TS := tSeq (tDrop (tVeI K (tCons (tVar 0) (tCons (tC (.str m)) tNil)))) (tOst K "at" (tVar 0) (tVar 1))
section
variable {P : Program} {w : World} {K : PySem.W.Frag} {mg : Str → Option Value} {base : Heap} {c : EC} {qual : Str} {st : Stmt} {N ps : List Str} {k : Nat}
theorem at_mk {m : Str} (F : OE1 K mg c qual st ps) (S : FnScope N ps (defScope st)) (hn : ps.length = 2) (hN : N.length = 2)
    (hb : ∀ (f : Addr) (cdv : Value) (A : Around) (outer : List Env) (s : Shared) (H : Hp) (E : XK), Room k (A.deeper (envOfC qual (defScope st) s.heap.objs.size f cdv)) → PSs (cxOf (L2.CX P w) P w K mg base N qual (defScope st) f cdv A outer s H E) (defBody st) (tXi K m)) : AtT P w K mg base (k + 1) c := by
  obtain ⟨C, f, fd, h1, h2, h3, h4, h5, F, b⟩ := F.ex
  refine ⟨C, f, fd, ps, h1, h2, h3, h4, F.okX S (fun vs H Q E h => ?_) (fun cdv A outer s H vs Q E hr h => ⟨_, hb f cdv A outer s H E hr, ?_⟩), b⟩
  · obtain ⟨a, i, rfl, _⟩ := h
    exact hn.symm
  · obtain ⟨a, i, rfl, ea, q⟩ := h
    match N, hN with
    | [n0, n1], _ =>
      refine ⟨.ref a, rfl, a, C, [.str m], rfl, by show 1 ≤ 1000; decide, h2, ea, .int i, rfl, .ref a, rfl, a, C, rfl, h2, h5, .inl ⟨ea, fun dx n ne => q dx n ne⟩⟩
/-- raise C(e) -/
def sRaiseAt (c : EC) (f : Sto → M D) : Sto → Res := fun ρ => match f ρ with
  | .error e => .er e ρ
  | .ok (.int i) => .er (.exc c (some i)) ρ
  | .ok _ => .er .stuck ρ
theorem ds_raiseAt {al : List Addr} {mu : Tbl} {ex : Option XV} {X : Cx} {W : WX} {x : Str} {y : Expr} {f : Sto → M D} {p pos pos' : Pos} (T : AtT X.prog X.w X.K X.mg X.base k c) (hc : X.calm = true) (tk : Takes X W) (hr : Room (k + 1) X.A) (he : PE X y (TD (gd X al mu ex) W f)) (hx : x = c.name := by rfl) (hg : Gl X x := by rfl) (hdb : (x == ("__debug__" : Str)) = false := by decide)
    (hst : starEach (y :: []) X.env = (false, eval y X.env) :: starEach [] X.env := by rfl) : PS X (.Raise (some (.Call (.Name x p) [y] [] pos)) none pos') (TSD (gd X al mu ex) W (sRaiseAt c f)) := by
  obtain ⟨C, fa, fd, ps, h1, h2, h3, h4, F, b⟩ := T.ex
  subst hx
  refine (ps_raise hc tk (pmk_oex (X := X) h2 h3 h4 F hr b .nil (passes_call tk fun _ _ _ _ z => z.elim) hg h1 (pa_cons he pa_nil hst) hdb hst rfl)).wk fun Dn σ H ⟨B0, H0, B, ρ, S, q⟩ => ?_
  unfold sRaiseAt at q
  refine td_i S (fun er h => by rw [h] at q; exact q σ B H S) fun v H1 B1 d x1 r e1 => ?_
  rw [e1] at q
  cases d with
  | int i =>
    simp only [Rep] at r
    subst r
    refine ⟨by show 1 ≤ 1000; decide, fun a ha => ⟨a, i, rfl, upd_same, fun d hd hne => ⟨rfl, d, [(("at" : Str), .int i)], upd_same, ?_, ?_, ?_⟩⟩⟩
    · rw [upd_ne hne, upd_same]
    · rw [upd_ne hne] at hd; exact hd
    · have hd1 : H1 d = none := by rw [upd_ne hne] at hd; exact hd
      have e : upd (del (upd (upd (upd H1 a (exo a C none)) d (exd d [(("at" : Str), .int i)])) a (exo a C (some d))) a) d (.xd [(("at" : Str), .int i)]) = upd H1 d (.xd [(("at" : Str), .int i)]) := by
        funext b
        by_cases hbd : b = d
        · rw [hbd, upd_same, upd_same]
        · rw [upd_ne hbd, upd_ne hbd]
          by_cases hba : b = a
          · rw [hba, del_same, ha]
          · rw [del_ne hba, upd_ne hba, upd_ne hbd, upd_ne hba]
      rw [e]
      exact q σ B1 H1 (S.mono x1) C (some d) B1 _ h1 (Ext.own x1.i' hd1) ⟨d, rfl, hd1, upd_same⟩
  | _ => exact (q σ B1 H1 (S.mono x1)).elim
end
end DL

namespace DL
open PySem PySem.Spec PyProof.Rows L2

/-! ### a try's store -/
def noEx : Sto → Bool
  | [] => true
  | some (.ex _ _) :: _ => false
  | _ :: r => noEx r
theorem noEx_ix : ∀ {ρ : Sto} {i : Nat} {c : EC} {o : Option Int}, noEx ρ = true → ρ[i]? ≠ some (some (.ex c o))
  | [], _, _, _, _ => by simp
  | x :: r, 0, c, o, h => fun e => by
    simp at e
    subst e
    cases h
  | x :: r, i + 1, c, o, h => by
    have h2 : noEx r = true := by
      match x, h with
      | none, h => exact h
      | some (.sh _), h => exact h
      | some (.ow _), h => exact h
    simpa using noEx_ix (ρ := r) (i := i) (c := c) (o := o) h2
section
variable {K : PySem.W.Frag} {mg : Str → Option Value} {al al0 : List Addr} {mu : Tbl} {ex ex' : Option XV} {B H B0 H0 : Hp} {σ : L2.St} {ρ : Sto}
theorem OwAt.sw {p : Addr} {d : D} (o : OwAt ⟨K, mg, al, mu, ex⟩ B H p d) : OwAt ⟨K, mg, al, mu, ex'⟩ B H p d := by
  cases d with
  | lst ds => obtain ⟨xs, q, r⟩ := o; exact ⟨xs, q, reps_grow (fun _ _ h => h) _ _ r⟩
  | dic kvs =>
    rcases o with ⟨t, q, r⟩ | ⟨t, q, r⟩
    · exact .inl ⟨t, q, rept_grow (fun _ _ h => h) _ _ r⟩
    · exact .inr ⟨t, q, repk_grow (fun _ _ h => h) _ _ r⟩
  | _ => exact o.elim
theorem TbOk.sw (t : TbOk ⟨K, mg, al, mu, ex⟩ B H) : TbOk ⟨K, mg, al, mu, ex'⟩ B H := by
  refine ⟨t.len, t.nd, fun n a c h1 h2 => ?_⟩
  obtain ⟨g1, g2⟩ := t.at_ n a c h1 h2
  refine ⟨g1, ?_⟩
  cases c with
  | obj c fs => obtain ⟨C, dx, gs, m, q, r⟩ := g2; exact ⟨C, dx, gs, m, q, repf_grow (fun _ _ h => h) _ _ r⟩
  | lst ds => obtain ⟨xs, q, r⟩ := g2; exact ⟨xs, q, reps_grow (fun _ _ h => h) _ _ r⟩
theorem StT.sw (S : StT K mg ex al0 B0 H0 al mu B H σ ρ) (hn : noEx ρ = true) : StT K mg ex' al0 B0 H0 al mu B H σ ρ :=
  ⟨S.gro, S.len, fun i d h => let ⟨v, h1, h2⟩ := S.sh i d h; ⟨v, h1, rep_grow (fun _ _ h => h) _ _ h2⟩, fun i d h => let ⟨p, h1, h2, h3, h4⟩ := S.ow i d h; ⟨p, h1, h2, h3, h4.sw⟩, S.ap, S.tb.sw, fun i c o h => (noEx_ix hn h).elim⟩
theorem get_set_out {α : Type} {l : List α} {i j : Nat} {a b : α} (h : (l.set i a)[j]? = some b) : (i = j ∧ a = b ∧ i < l.length) ∨ (i ≠ j ∧ l[j]? = some b) := by
  by_cases q : i = j
  · subst q
    by_cases hl : i < l.length
    · rw [List.getElem?_set_self hl] at h
      cases h
      exact .inl ⟨rfl, rfl, hl⟩
    · rw [List.getElem?_eq_none (by rw [List.length_set]; omega)] at h
      cases h
  · rw [List.getElem?_set_ne q] at h
    exact .inr ⟨q, h⟩
theorem StT.set_x (S : StT K mg ex al0 B0 H0 al mu B H σ ρ) (i : Nat) (u : Option V) (sl : Option Sl) (h1 : ∀ d, sl ≠ some (.sh d)) (h2 : ∀ d, sl ≠ some (.ow d)) (hx : ∀ c o, sl = some (.ex c o) → XsAt ⟨K, mg, al, mu, ex⟩ B (some u) c o) :
    StT K mg ex al0 B0 H0 al mu B H (σ.set i u) (ρ.set i sl) := by
  refine ⟨S.gro, by rw [List.length_set, List.length_set, S.len], fun j d h => ?_, fun j d h => ?_, fun j k d e p g1 g2 g3 g4 => ?_, S.tb, fun j c o h => ?_⟩
  · rcases get_set_out h with ⟨_, e, _⟩ | ⟨q, h⟩
    · exact (h1 d e).elim
    · rw [List.getElem?_set_ne q]; exact S.sh j d h
  · rcases get_set_out h with ⟨_, e, _⟩ | ⟨q, h⟩
    · exact (h2 d e).elim
    · rw [List.getElem?_set_ne q]; exact S.ow j d h
  · rcases get_set_out g1 with ⟨_, z, _⟩ | ⟨q1, g1⟩
    · exact (h2 d z).elim
    · rcases get_set_out g2 with ⟨_, z, _⟩ | ⟨q2, g2⟩
      · exact (h2 e z).elim
      · rw [List.getElem?_set_ne q1] at g3
        rw [List.getElem?_set_ne q2] at g4
        exact S.ap j k d e p g1 g2 g3 g4
  · rcases get_set_out h with ⟨q, e, hl⟩ | ⟨q, h⟩
    · subst q
      rw [List.getElem?_set_self (by rw [S.len]; exact hl)]
      exact hx c o e
    · rw [List.getElem?_set_ne q]; exact S.xs j c o h
end

/-! ### try: .. except DueError as e: .. -/
def clrT (i : Nat) (bad : Res × Tbl) : Res × Tbl → Res × Tbl
  | (.nx ρ, mu) => if noEx (ρ.set i none) then (.nx (ρ.set i none), mu) else bad
  | (.bk ρ, mu) => if noEx (ρ.set i none) then (.bk (ρ.set i none), mu) else bad
  | (.ct ρ, mu) => if noEx (ρ.set i none) then (.ct (ρ.set i none), mu) else bad
  | (.rt s, mu) => (.rt s, mu)
  | (.er _ _, _) => bad
def sTryT (i : Nat) (cs : List EC) (g h : TS1) : TS1 := fun mu ρ => match g mu ρ with
  | (.er (.exc c o) ρ1, mu1) => if noEx ρ1 && cs.contains c then clrT i (.er .stuck ρ1, mu1) (h mu1 (ρ1.set i (some (.ex c o)))) else (.er .stuck ρ1, mu1)
  | r => r
structure DueX (K : PySem.W.Frag) (mg : Str → Option Value) (cs : List EC) : Prop where
  ex : ∃ D, mg "DueError" = some (.ref D) ∧ ∀ c ∈ cs, ∃ C, mg c.name = some (.ref C) ∧ PySem.W.exmOne K (.ref C) (.ref D) = some true
section
variable {X : Cx} {W : WX} {n : Str} {i : Nat} {body suite : List Stmt} {b₀ : Stmt} {np pos pos' : Pos} {ex : Option XV} {g h : TS1} {cs : List EC}
theorem ts_try (T : DueX X.K X.mg cs) (i : Nat) (hN : X.N.Nodup) (tk : Takes X W) (hb : ∀ (W : WX) (pn : List (Addr × Obj)) (xe : Value → Shared → Prop), Takes (X.tr pn xe) W → PassesOwn (model X.prog X.w) X.A X.env xe → PSs (X.tr pn xe) body (TST X.K X.mg ex W g))
    (hsu : ∀ (a : Addr) (oe : Obj) (cls : Value) (d : Option Addr) (pn : List (Addr × Obj)), Zc cls d oe → (∃ vs, oe.data = .fields vs) → PSs (X.suite a ((a, oe) :: pn)) (b₀ :: suite) (TST X.K X.mg (some (a, cls, d)) (fun _ _ _ _ => False) h))
    (hs : X.stack = X.env :: X.outer := by rfl) (hf : X.env.frame = some X.env.locals := by rfl) (hi : X.N[i]? = some n := by rfl) (hln : X.env.kindOf n = some .local := by rfl) (hg : Gl X "DueError" := by rfl) :
    PS X (.Try body [.ExceptHandler (some (.Name "DueError" np)) (some n) (b₀ :: suite) pos'] [] [] pos) (TST X.K X.mg ex W (sTryT i cs g h)) := by
  obtain ⟨CD, hCD, hex⟩ := T.ex
  refine (ps_try_as (ts := fun a cls d => TST X.K X.mg (some (a, cls, d)) (fun _ _ _ _ => False) h) hs hf hN hi hln ⟨hg, by decide, .inl hCD⟩ tk hb hsu).wk fun Dn σ H ⟨al0, B0, H0, al, mu, B, ρ, S, q⟩ => ?_
  refine ⟨al0, B0, H0, al, mu, B, ρ, S, ?_⟩
  unfold sTryT at q
  cases hr : g mu ρ with
  | mk r mu1 =>
    rw [hr] at q
    cases r with
    | nx ρ1 => exact q
    | bk ρ1 => exact q
    | ct ρ1 => exact q
    | rt s =>
      cases s with
      | sh d => exact q
      | ow d => exact q
      | ex c o => exact q
    | er e ρ1 =>
      cases e with
      | stuck => exact fun σ1 al1 B1 H1 S1 => (q σ1 al1 B1 H1 S1).elim
      | exc c o =>
        dsimp only at q
        split at q
        · rename_i hc
          rw [Bool.and_eq_true] at hc
          obtain ⟨hn, hcs⟩ := hc
          obtain ⟨C, hC, hm⟩ := hex c (by simpa using hcs)
          intro σ1 al1 B1 H1 S1 Ca dA B2 H2 hCa x xd
          have eC : Ca = C := by
            have hCa : X.mg c.name = some (.ref Ca) := hCa
            rw [hC] at hCa
            cases hCa
            rfl
          subst eC
          refine ⟨true, hm, fun _ a na => ?_, fun z => by cases z⟩
          have S2 : ∃ B3, StT X.K X.mg (some (a, Value.ref Ca, dA)) al0 B0 H0 al1 mu1 B3 H2 (σ1.set i (some (.ref a))) (ρ1.set i (some (.ex c o))) := by
            have base : ∃ B3, Ext B1 H1 B3 H2 ∧ XsAt ⟨X.K, X.mg, al1, mu1, some (a, Value.ref Ca, dA)⟩ B3 (some (some (V.ref a))) c o := by
              cases o with
              | none => exact ⟨B2, x, a, _, dA, rfl, rfl, hC, xd⟩
              | some z =>
                obtain ⟨dd, e1, e2, e3⟩ := xd
                cases hb2 : B2 dd with
                | none => exact ⟨_, x.show_ e2 e3 hb2, a, _, dA, rfl, rfl, hC, dd, e1, upd_same⟩
                | some u =>
                  have := x.i' _ _ hb2
                  rw [e3] at this
                  cases this
                  exact ⟨B2, x, a, _, dA, rfl, rfl, hC, dd, e1, hb2⟩
            obtain ⟨B3, x3, hx⟩ := base
            exact ⟨B3, (StT.sw (S1.mono x3) hn).set_x i _ _ (fun d e => by cases e) (fun d e => by cases e) fun c' o' e => by cases e; exact hx⟩
          obtain ⟨B3, S3⟩ := S2
          refine ⟨al0, B0, H0, al1, mu1, B3, _, S3, ?_⟩
          cases hh : h mu1 (ρ1.set i (some (.ex c o))) with
          | mk r2 mu2 =>
            rw [hh] at q
            cases r2 with
            | nx ρ2 =>
              intro σ4 al4 B4 H4 S4
              simp only [clrT] at q
              split at q
              · rename_i hn2
                exact q _ _ _ _ (StT.sw (S4.set_x i none none (fun d e => by cases e) (fun d e => by cases e) fun c o e => by cases e) hn2)
              · exact (q _ _ _ _ S1).elim
            | bk ρ2 =>
              intro σ4 al4 B4 H4 S4
              simp only [clrT] at q
              split at q
              · rename_i hn2
                exact q _ _ _ _ (StT.sw (S4.set_x i none none (fun d e => by cases e) (fun d e => by cases e) fun c o e => by cases e) hn2)
              · exact (q _ _ _ _ S1).elim
            | ct ρ2 =>
              intro σ4 al4 B4 H4 S4
              simp only [clrT] at q
              split at q
              · rename_i hn2
                exact q _ _ _ _ (StT.sw (S4.set_x i none none (fun d e => by cases e) (fun d e => by cases e) fun c o e => by cases e) hn2)
              · exact (q _ _ _ _ S1).elim
            | rt s =>
              simp only [clrT] at q
              cases s with
              | sh d => exact fun v al4 B4 H4 g t r => q v al4 B4 H4 g t.sw (rep_grow (fun _ _ h => h) _ _ r)
              | ow d => exact fun p al4 B4 H4 g t h1 h2 h3 h4 => q p al4 B4 H4 g t.sw h1 h2 h3 h4.sw
              | ex c o => exact fun al4 B4 H4 g t => q al4 B4 H4 g t.sw
            | er e ρ2 =>
              simp only [clrT] at q
              exact fun σ4 al4 B4 H4 S4 => (q _ _ _ _ S1).elim
        · exact fun σ1 al1 B1 H1 S1 => (q σ1 al1 B1 H1 S1).elim
end
end DL

namespace DL
open PySem PySem.Spec PyProof.Rows L2

/-! ### isinstance of the exception that a suite holds -/
/-- what the written part says of an exception's class -/
structure XcK (K : PySem.W.Frag) (D : Addr) : Prop where
  ga : PySem.W.findIn K (.ref D) "__getattribute__" = some (some (.builtin "BaseException.__getattribute__"))
  gg : PySem.W.findIn K (.ref D) "__getattr__" = some none
  sb : PySem.W.subIn K (.ref D) (.type "BaseException") = some true
  hd : PySem.W.hasDictIn K D = true
  cl : PySem.W.findIn K (.ref D) "__class__" = some (some (.builtin "object.__class__"))
  sg : PySem.W.specialIn K (.builtin "object.__class__") "__get__" = some (some (.builtin "getset_descriptor.__get__"))
  tk : PySem.W.takesIn K (.builtin "object.__class__") = some true
  mo : PySem.W.mroIn K D (.type "object") = some true
theorem XcK.some {K : PySem.W.Frag} {D : Addr} (h : XcK K D) : (PySem.W.clsIn K D).isSome = true := by
  have z := h.hd
  unfold PySem.W.hasDictIn at z
  cases q : PySem.W.clsIn K D with
  | none => rw [q] at z; cases z
  | some cd => rfl
theorem XcK.kit {K : PySem.W.Frag} {D a : Addr} {oe : Obj} {od : Option Obj} (h : XcK K D) : PySem.W.KitX K (.ref a) (.ref D) (fun hp => PySem.W.InstAt hp a oe D od) := PySem.W.kitx_exc h.some h.ga h.gg h.sb h.cl h.sg h.tk h.mo
/-- the exception's dict is there -/
def DcAt (H : Hp) (d : Option Addr) : Prop := d = none ∨ ∃ dd fs, d = some dd ∧ H dd = some (.xd fs)
def rIsX (K : PySem.W.Frag) (D a : Addr) (d : Option Addr) : List V → Hp → VK → Prop := fun xs H Q => DcAt H d ∧
  ((∃ (c : V) (cv : Value) (b : Bool), xs = [.ref a, c] ∧ (∀ u, RelV c u → u = cv) ∧ PySem.W.kitOne K (.ref D) cv = some b ∧ Q (.bl b) H) ∨
    ∃ (tp : Addr) (ys : List V) (cs : List Value) (b : Bool), xs = [.ref a, .ref tp] ∧ H tp = some (.tup ys) ∧ (∀ us, Vals ys us → us = cs) ∧ PySem.W.kitAny K (.ref D) cs = some b ∧ Q (.bl b) H)
theorem inst_at {X : Cx} {pins : List (Addr × Obj)} {σ : L2.St} {H : Hp} {s : Shared} {D a : Addr} {d : Option Addr} {oe : Obj} (I : Inv X pins σ H s) (ha : s.heap.get? a = some oe) (hz : Zc (.ref D) d oe) (hf : ∃ vs, oe.data = .fields vs) (hd : DcAt H d) : ∃ od, PySem.W.InstAt s.heap a oe D od := by
  obtain ⟨vs, hv⟩ := hf
  have no : PySem.W.notCls oe = true := by unfold PySem.W.notCls; rw [hv] <;> rfl
  rcases hd with rfl | ⟨dd, fs, rfl, e⟩
  · exact ⟨none, ha, hz.1, no, by rw [hz.2] <;> trivial⟩
  · have hx : ObjOk X.prog X.w H s.heap dd (.xd fs) := I.hok dd _ e
    obtain ⟨mA, hns, _⟩ := hx
    obtain ⟨od, ho, _⟩ := lookIn_ns hns
    exact ⟨some od, ha, hz.1, no, by rw [hz.2]; exact ho⟩
theorem call_isX {X : Cx} {a D : Addr} {d : Option Addr} {oe : Obj} {pn : List (Addr × Obj)} (C : XcK X.K D) (hz : Zc (.ref D) d oe) (hf : ∃ vs, oe.data = .fields vs) : CallR (X.suite a ((a, oe) :: pn)) (.builtin "isinstance") (rIsX X.K D a d) := by
  intro pins s σ H xs us Q I r h
  obtain ⟨hd, h⟩ := h
  obtain ⟨ha, _⟩ := I.pin (a, oe) (List.mem_append.mpr (.inl List.mem_cons_self))
  obtain ⟨od, J⟩ := inst_at I ha hz hf hd
  rcases h with ⟨c, cv, b, rfl, hcv, e, q⟩ | ⟨tp, ys, cs, b, rfl, ht, hcs, e, q⟩
  · cases r with
    | cons rx rr =>
      cases rr with
      | cons rt rr =>
        cases rr
        cases rx
        have z := hcv _ rt
        subst z
        exact PySem.W.kia_one C.kit I.kIn J e (fun z => nomatch z) fun tk => ⟨.bl b, H, I.kept (t' := tk) fun _ _ z => z, rfl, q⟩
  · cases r with
    | cons rx rr =>
      cases rr with
      | cons rt rr =>
        cases rr
        cases rx
        cases rt
        obtain ⟨its, rv, ⟨⟨c0, dd, da, sl⟩, ho, hc, n, hdd⟩, _⟩ := I.tuple (.of ht)
        simp only at hc hdd
        subst hc hdd
        have z := hcs _ rv
        subst z
        exact PySem.W.kia_tup C.kit I.kIn J ho e (fun z => nomatch z) fun tk => ⟨.bl b, H, I.kept (t' := tk) fun _ _ z => z, rfl, q⟩
/-- is the one under the other -/
def EC.isa (c t : EC) : Bool := decide (c = t) || decide (t = .DueError)
def eXis (i : Nat) (cs : List EC) (p : EC → Bool) : Sto → M D := fun ρ => match ρ[i]? with
  | some (some (.ex c _)) => if cs.contains c then .ok (.bl (p c)) else .error .stuck
  | _ => .error .stuck
structure XcT (K : PySem.W.Frag) (mg : Str → Option Value) (cs : List EC) : Prop where
  ex : ∀ c ∈ cs, ∃ D, mg c.name = some (.ref D) ∧ XcK K D
structure XpT (K : PySem.W.Frag) (mg : Str → Option Value) (cs : List EC) (t : EC) : Prop where
  ex : ∃ T, mg t.name = some (.ref T) ∧ ∀ c ∈ cs, ∃ D, mg c.name = some (.ref D) ∧ PySem.W.kitOne K (.ref D) (.ref T) = some (c.isa t)
structure XvT (K : PySem.W.Frag) (mg : Str → Option Value) (cs : List EC) : Prop where
  ex : ∀ c ∈ cs, ∃ D, mg c.name = some (.ref D) ∧ PySem.W.kitOne K (.ref D) (.type "ValueError") = some true
section
variable {X : Cx} {W : WX} {al : List Addr} {mu : Tbl} {a : Addr} {oe : Obj} {cls : Value} {d : Option Addr} {pn : List (Addr × Obj)} {cs : List EC} {i : Nat} {en tn vn : Str} {p p1 p2 pos : Pos}
/-- what is told of the exception of slot i -/
theorem ex_get {H : Hp} {B0 H0 B : Hp} {σ : L2.St} {ρ : Sto} {c : EC} {o : Option Int} (S : StOk ⟨X.K, X.mg, al, mu, some (a, cls, d)⟩ B0 H0 B H σ ρ) (h : ρ[i]? = some (some (.ex c o))) : σ[i]? = some (some (V.ref a)) ∧ X.mg c.name = some cls ∧ DcAt H d := by
  obtain ⟨a', cls', d', e, h1, h2, h3⟩ := S.xs i c o h
  have e : (a, cls, d) = (a', cls', d') := Option.some.inj e
  cases e
  refine ⟨h1, h2, ?_⟩
  cases o with
  | none => exact .inl h3
  | some n =>
    obtain ⟨dd, e, q⟩ := h3
    exact .inr ⟨dd, _, e, S.ext.i' _ _ q⟩
theorem de_xis (i : Nat) {t : EC} (T : XcT X.K X.mg cs) (U : XpT X.K X.mg cs t) (hm : X.mg "isinstance" = none) (hz : Zc cls d oe) (hf : ∃ vs, oe.data = .fields vs) (hN : X.N[i]? = some en := by rfl) (hv : Vis X.env.scope en := by first | exact Or.inl rfl | exact Or.inr (Or.inl rfl) | exact Or.inr (Or.inr rfl)) (hd1 : (en == ("__debug__" : Str)) = false := by decide) (hd2 : (en == ("__classdict__" : Str)) = false := by decide)
    (ht : tn = t.name := by rfl) (hg : Gl X "isinstance" := by rfl) (hgT : Gl X tn := by rfl) (hdT : (tn == ("__debug__" : Str)) = false := by decide)
    (hs1 : starEach (.Name en p1 :: [.Name tn p2]) X.env = (false, eval (.Name en p1) X.env) :: starEach [.Name tn p2] X.env := by rfl) (hs2 : starEach (.Name tn p2 :: []) X.env = (false, eval (.Name tn p2) X.env) :: starEach [] X.env := by rfl) (hpl : (backTo pos (starEach [.Name tn p2] X.env)).any (·.1) = false := by rfl) :
    PE (X.suite a ((a, oe) :: pn)) (.Call (.Name "isinstance" p) [.Name en p1, .Name tn p2] [] pos) (TD ⟨X.K, X.mg, al, mu, some (a, cls, d)⟩ W (eXis i cs fun c => c.isa t)) := by
  subst ht
  refine ⟨fun pins s σ H Q I ⟨B0, H0, B, ρ, S, q⟩ => ?_⟩
  unfold eXis at q
  split at q
  · rename_i c o hc
    split at q
    · rename_i hcs
      have hcs : c ∈ cs := by simpa using hcs
      obtain ⟨D, m1, C⟩ := T.ex c hcs
      obtain ⟨T', m2, h2⟩ := U.ex
      obtain ⟨D', m3, h3⟩ := h2 c hcs
      rw [m1] at m3; cases m3
      obtain ⟨g1, g2, g3⟩ := ex_get S hc
      rw [m1] at g2; cases g2
      exact (pe_callB (X := X.suite a ((a, oe) :: pn)) (call_isX C hz hf) hg hm (by decide +kernel) (pa_cons (pe_var (X := X.suite a ((a, oe) :: pn)) hN hv hd1 hd2) (pa_cons (pe_glob (X := X.suite a ((a, oe) :: pn)) (v := .ref T') hgT m2 rfl hdT) pa_nil hs2) hs1) (by decide) (by decide) hs1 hpl).run pins s σ H Q I
        ⟨.ref a, g1, g3, .inl ⟨.ref T', .ref T', c.isa t, rfl, fun u r => r, h3, q _ B H (Ext.refl S.ext.i') rep_bl⟩⟩
    · exact q.elim
  · exact q.elim
theorem de_xisV (i : Nat) (T : XcT X.K X.mg cs) (U : XvT X.K X.mg cs) (hm : X.mg "isinstance" = none) (hmv : X.mg "ValueError" = none) (hz : Zc cls d oe) (hf : ∃ vs, oe.data = .fields vs) (hN : X.N[i]? = some en := by rfl) (hv : Vis X.env.scope en := by first | exact Or.inl rfl | exact Or.inr (Or.inl rfl) | exact Or.inr (Or.inr rfl)) (hd1 : (en == ("__debug__" : Str)) = false := by decide) (hd2 : (en == ("__classdict__" : Str)) = false := by decide)
    (hg : Gl X "isinstance" := by rfl) (hgT : Gl X "ValueError" := by rfl)
    (hs1 : starEach (.Name en p1 :: [.Name "ValueError" p2]) X.env = (false, eval (.Name en p1) X.env) :: starEach [.Name "ValueError" p2] X.env := by rfl) (hs2 : starEach (.Name "ValueError" p2 :: []) X.env = (false, eval (.Name "ValueError" p2) X.env) :: starEach [] X.env := by rfl) (hpl : (backTo pos (starEach [.Name "ValueError" p2] X.env)).any (·.1) = false := by rfl) :
    PE (X.suite a ((a, oe) :: pn)) (.Call (.Name "isinstance" p) [.Name en p1, .Name "ValueError" p2] [] pos) (TD ⟨X.K, X.mg, al, mu, some (a, cls, d)⟩ W (eXis i cs fun _ => true)) := by
  refine ⟨fun pins s σ H Q I ⟨B0, H0, B, ρ, S, q⟩ => ?_⟩
  unfold eXis at q
  split at q
  · rename_i c o hc
    split at q
    · rename_i hcs
      have hcs : c ∈ cs := by simpa using hcs
      obtain ⟨D, m1, C⟩ := T.ex c hcs
      obtain ⟨D', m3, h3⟩ := U.ex c hcs
      rw [m1] at m3; cases m3
      obtain ⟨g1, g2, g3⟩ := ex_get S hc
      rw [m1] at g2; cases g2
      exact (pe_callB (X := X.suite a ((a, oe) :: pn)) (call_isX C hz hf) hg hm (by decide +kernel) (pa_cons (pe_var (X := X.suite a ((a, oe) :: pn)) hN hv hd1 hd2) (pa_cons (pe_bltn (X := X.suite a ((a, oe) :: pn)) (v := .ty "ValueError") hgT hmv PyProof.Rows.Boot.«ValueError» rfl (by decide) (by decide)) pa_nil hs2) hs1) (by decide) (by decide) hs1 hpl).run pins s σ H Q I
        ⟨.ref a, g1, g3, .inl ⟨.ty "ValueError", .type "ValueError", true, rfl, fun u r => r, h3, q _ B H (Ext.refl S.ext.i') rep_bl⟩⟩
    · exact q.elim
  · exact q.elim
theorem de_xis2 (i : Nat) {t t' : EC} (T : XcT X.K X.mg cs) (U : XpT X.K X.mg cs t) (U' : XpT X.K X.mg cs t') (hm : X.mg "isinstance" = none) (hz : Zc cls d oe) (hf : ∃ vs, oe.data = .fields vs) {p3 p4 : Pos} {kt} (hN : X.N[i]? = some en := by rfl) (hv : Vis X.env.scope en := by first | exact Or.inl rfl | exact Or.inr (Or.inl rfl) | exact Or.inr (Or.inr rfl)) (hd1 : (en == ("__debug__" : Str)) = false := by decide) (hd2 : (en == ("__classdict__" : Str)) = false := by decide)
    (ht : tn = t.name := by rfl) (ht' : vn = t'.name := by rfl) (hg : Gl X "isinstance" := by rfl) (hgT : Gl X tn := by rfl) (hdT : (tn == ("__debug__" : Str)) = false := by decide) (hgV : Gl X vn := by rfl) (hdV : (vn == ("__debug__" : Str)) = false := by decide)
    (hs1 : starEach (.Name en p1 :: [.Tuple [.Name tn p2, .Name vn p3] kt p4]) X.env = (false, eval (.Name en p1) X.env) :: starEach [.Tuple [.Name tn p2, .Name vn p3] kt p4] X.env := by rfl) (hs2 : starEach (.Tuple [.Name tn p2, .Name vn p3] kt p4 :: []) X.env = (false, eval (.Tuple [.Name tn p2, .Name vn p3] kt p4) X.env) :: starEach [] X.env := by rfl)
    (hs3 : starEach (.Name tn p2 :: [.Name vn p3]) X.env = (false, eval (.Name tn p2) X.env) :: starEach [.Name vn p3] X.env := by rfl) (hs4 : starEach (.Name vn p3 :: []) X.env = (false, eval (.Name vn p3) X.env) :: starEach [] X.env := by rfl) (hpl : (backTo pos (starEach [.Tuple [.Name tn p2, .Name vn p3] kt p4] X.env)).any (·.1) = false := by rfl) :
    PE (X.suite a ((a, oe) :: pn)) (.Call (.Name "isinstance" p) [.Name en p1, .Tuple [.Name tn p2, .Name vn p3] kt p4] [] pos) (TD ⟨X.K, X.mg, al, mu, some (a, cls, d)⟩ W (eXis i cs fun c => c.isa t || c.isa t')) := by
  subst ht ht'
  refine ⟨fun pins s σ H Q I ⟨B0, H0, B, ρ, S, q⟩ => ?_⟩
  unfold eXis at q
  split at q
  · rename_i c o hc
    split at q
    · rename_i hcs
      have hcs : c ∈ cs := by simpa using hcs
      obtain ⟨D, m1, C⟩ := T.ex c hcs
      obtain ⟨T1, m2, h2⟩ := U.ex
      obtain ⟨T2, m4, h4⟩ := U'.ex
      obtain ⟨D', m3, h3⟩ := h2 c hcs
      rw [m1] at m3; cases m3
      obtain ⟨D'', m5, h5⟩ := h4 c hcs
      rw [m1] at m5; cases m5
      obtain ⟨g1, g2, g3⟩ := ex_get S hc
      rw [m1] at g2; cases g2
      refine (pe_callB (X := X.suite a ((a, oe) :: pn)) (call_isX C hz hf) hg hm (by decide +kernel) (pa_cons (pe_var (X := X.suite a ((a, oe) :: pn)) hN hv hd1 hd2) (pa_cons (pe_tup (pa_cons (pe_glob (X := X.suite a ((a, oe) :: pn)) (v := .ref T1) hgT m2 rfl hdT) (pa_cons (pe_glob (X := X.suite a ((a, oe) :: pn)) (v := .ref T2) hgV m4 rfl hdV) pa_nil hs4) hs3)) pa_nil hs2) hs1) (by decide) (by decide) hs1 hpl).run pins s σ H Q I
        ⟨.ref a, g1, by show 2 ≤ sizeLine; rw [sizeLine_eq]; decide, fun tp hp => ⟨?_, .inr ⟨tp, [.ref T1, .ref T2], [.ref T1, .ref T2], c.isa t || c.isa t', rfl, upd_same, fun us r => ?_, ?_, q _ B _ (Ext.own S.ext.i' hp) rep_bl⟩⟩⟩
      · rcases g3 with rfl | ⟨dd, fs, rfl, e⟩
        · exact .inl rfl
        · exact .inr ⟨dd, fs, rfl, by rw [upd_ne (ne_of_none e hp)]; exact e⟩
      · cases r with
        | cons r1 r =>
          cases r with
          | cons r2 r =>
            cases r
            cases r1
            cases r2
            rfl
      · show (match PySem.W.kitOne X.K (.ref D) (.ref T1) with
          | some true => some true
          | some false => PySem.W.kitAny X.K (.ref D) [.ref T2]
          | none => none) = _
        rw [h3]
        cases c.isa t with
        | true => rfl
        | false =>
          show (match PySem.W.kitOne X.K (.ref D) (.ref T2) with
            | some true => some true
            | some false => PySem.W.kitAny X.K (.ref D) []
            | none => none) = _
          rw [h5]
          cases c.isa t' with
          | true => rfl
          | false => rfl
    · exact q.elim
  · exact q.elim
/-- e.at -/
def eXat (i : Nat) (cs : List EC) : Sto → M D := fun ρ => match ρ[i]? with
  | some (some (.ex c (some n))) => if cs.contains c then .ok (.int n) else .error .stuck
  | _ => .error .stuck
structure XaT (K : PySem.W.Frag) (mg : Str → Option Value) (cs : List EC) : Prop where
  ex : ∀ c ∈ cs, ∃ D, mg c.name = some (.ref D) ∧ XcK K D ∧ PySem.W.findIn K (.ref D) "at" = some none
theorem de_xat (i : Nat) (T : XaT X.K X.mg cs) (hz : Zc cls d oe) (hf : ∃ vs, oe.data = .fields vs) (hN : X.N[i]? = some en := by rfl) (hv : Vis X.env.scope en := by first | exact Or.inl rfl | exact Or.inr (Or.inl rfl) | exact Or.inr (Or.inr rfl)) (hd1 : (en == ("__debug__" : Str)) = false := by decide) (hd2 : (en == ("__classdict__" : Str)) = false := by decide)
    (hb : attributeBase (.Name en p1) "at" X.env (eval (.Name en p1) X.env) = eval (.Name en p1) X.env := by rfl) :
    PE (X.suite a ((a, oe) :: pn)) (.Attribute (.Name en p1) "at" pos) (TD ⟨X.K, X.mg, al, mu, some (a, cls, d)⟩ W (eXat i cs)) := by
  refine ⟨fun pins s σ H Q I ⟨B0, H0, B, ρ, S, q⟩ => ?_⟩
  unfold eXat at q
  split at q
  · rename_i c n hc
    split at q
    · rename_i hcs
      have hcs : c ∈ cs := by simpa using hcs
      obtain ⟨D, m1, C, hno⟩ := T.ex c hcs
      obtain ⟨g1, g2, g3⟩ := ex_get S hc
      rw [m1] at g2; cases g2
      obtain ⟨a', cls', d', e, k1, k2, dd, k3, k4⟩ := S.xs i c _ hc
      have e : (a, Value.ref D, d) = (a', cls', d') := Option.some.inj e
      cases e
      exact (pe_xf (X := X) ⟨C.ga, C.gg, C.sb, C.hd⟩ hno hz hf (pe_var (X := X.suite a ((a, oe) :: pn)) hN hv hd1 hd2) hb).run pins s σ H Q I
        ⟨.ref a, g1, rfl, rfl, dd, _, .int n, k3, S.ext.i' _ _ k4, rfl, q _ B H (Ext.refl S.ext.i') rep_int⟩
    · exact q.elim
  · exact q.elim
end
/-! ### values of parts that change something -/
def eAndT (F G : TF1) : TF1 := fun mu ρ => match F mu ρ with
  | (.ok (.bl true), mu') => G mu' ρ
  | (.ok (.bl false), mu') => (.ok (.bl false), mu')
  | (.ok _, mu') => (.error .stuck, mu')
  | (.error e, mu') => (.error e, mu')
def eOrT (F G : TF1) : TF1 := fun mu ρ => match F mu ρ with
  | (.ok (.bl true), mu') => (.ok (.bl true), mu')
  | (.ok (.bl false), mu') => G mu' ρ
  | (.ok _, mu') => (.error .stuck, mu')
  | (.error e, mu') => (.error e, mu')
def APostT (K : PySem.W.Frag) (mg : Str → Option Value) (ex : Option XV) (W : WX) (al : List Addr) (B H : Hp) (σ : L2.St) (Q : List V → Hp → Prop) : M (List D) × Tbl → Prop
  | (.ok ds, mu') => ∀ vs al' B' H', Gro al B H al' B' H' → TbOk ⟨K, mg, al', mu', ex⟩ B' H' → Reps ⟨K, mg, al', mu', ex⟩ B' ds vs → Q vs H'
  | (.error e, mu') => ∀ al' B' H', Gro al B H al' B' H' → TbOk ⟨K, mg, al', mu', ex⟩ B' H' → ErOk ⟨K, mg, al', mu', ex⟩ W B' H' σ e
abbrev TFs := Tbl → Sto → M (List D) × Tbl
def TADT (K : PySem.W.Frag) (mg : Str → Option Value) (ex : Option XV) (W : WX) (F : TFs) : TA := fun σ H Q => ∃ al0 B0 H0 al mu B ρ, StT K mg ex al0 B0 H0 al mu B H σ ρ ∧ APostT K mg ex W al B H σ Q (F mu ρ)
def aNilT : TFs := fun mu _ => (.ok [], mu)
def aConsT (F : TF1) (G : TFs) : TFs := fun mu ρ => match F mu ρ with
  | (.error e, mu') => (.error e, mu')
  | (.ok d, mu') => (match G mu' ρ with
    | (.error e, mu'') => (.error e, mu'')
    | (.ok ds, mu'') => (.ok (d :: ds), mu''))
def eTupT (G : TFs) : TF1 := fun mu ρ => match G mu ρ with
  | (.error e, mu') => (.error e, mu')
  | (.ok ds, mu') => if lim ds.length then (.ok (.tup ds), mu') else (.error .stuck, mu')
section
variable {X : Cx} {W : WX} {a b e : Expr} {rest es : List Expr} {F G : TF1} {Gs : TFs} {pos : Pos} {ex : Option XV}
theorem dpost_grow {K : PySem.W.Frag} {mg : Str → Option Value} {al al1 : List Addr} {B H B1 H1 : Hp} {σ : L2.St} {Q : VK} {r : M D × Tbl} (x : Gro al B H al1 B1 H1) (q : DPostT K mg ex W al B H σ Q r) : DPostT K mg ex W al1 B1 H1 σ Q r := by
  obtain ⟨r, mu⟩ := r
  cases r with
  | ok d => exact fun v al' B' H' y t r => q v al' B' H' (x.trans y) t r
  | error e => exact fun al' B' H' y t => q al' B' H' (x.trans y) t
theorem te_and (h1 : PE X a (TDT X.K X.mg ex W F)) (h2 : PE X (.BoolOp .And (b :: rest) pos) (TDT X.K X.mg ex W G)) : PE X (.BoolOp .And (a :: b :: rest) pos) (TDT X.K X.mg ex W (eAndT F G)) := (pe_and h1 h2).wk fun σ H Q ⟨al0, B0, H0, al, mu, B, ρ, S, q⟩ => by
  unfold eAndT at q
  refine tdt_i S (fun er mu' h => by rw [h] at q; exact q) fun v al1 mu1 B1 H1 d x t r e1 => ?_
  rw [e1] at q
  cases d with
  | bl k =>
    simp only [Rep] at r
    refine ⟨k, r, ?_⟩
    cases k with
    | true => exact ⟨al0, B0, H0, al1, mu1, B1, ρ, S.grow x t, dpost_grow x q⟩
    | false => exact q (.bl false) al1 B1 H1 x t rep_bl
  | _ => exact (q al1 B1 H1 x t).elim
theorem te_or (h1 : PE X a (TDT X.K X.mg ex W F)) (h2 : PE X (.BoolOp .Or (b :: rest) pos) (TDT X.K X.mg ex W G)) : PE X (.BoolOp .Or (a :: b :: rest) pos) (TDT X.K X.mg ex W (eOrT F G)) := (pe_or h1 h2).wk fun σ H Q ⟨al0, B0, H0, al, mu, B, ρ, S, q⟩ => by
  unfold eOrT at q
  refine tdt_i S (fun er mu' h => by rw [h] at q; exact q) fun v al1 mu1 B1 H1 d x t r e1 => ?_
  rw [e1] at q
  cases d with
  | bl k =>
    simp only [Rep] at r
    refine ⟨k, r, ?_⟩
    cases k with
    | false => exact ⟨al0, B0, H0, al1, mu1, B1, ρ, S.grow x t, dpost_grow x q⟩
    | true => exact q (.bl true) al1 B1 H1 x t rep_bl
  | _ => exact (q al1 B1 H1 x t).elim
theorem te_one {op} (h : PE X a (TDT X.K X.mg ex W F)) : PE X (.BoolOp op [a] pos) (TDT X.K X.mg ex W F) := pe_one h
theorem tadt_i {K : PySem.W.Frag} {mg : Str → Option Value} {al0 al : List Addr} {mu : Tbl} {B0 H0 B H : Hp} {σ : L2.St} {ρ : Sto} {Q : List V → Hp → Prop} (S : StT K mg ex al0 B0 H0 al mu B H σ ρ)
    (hE : ∀ e mu', Gs mu ρ = (.error e, mu') → ∀ al' B' H', Gro al B H al' B' H' → TbOk ⟨K, mg, al', mu', ex⟩ B' H' → ErOk ⟨K, mg, al', mu', ex⟩ W B' H' σ e)
    (k : ∀ vs al1 mu1 B1 H1 ds, Gro al B H al1 B1 H1 → TbOk ⟨K, mg, al1, mu1, ex⟩ B1 H1 → Reps ⟨K, mg, al1, mu1, ex⟩ B1 ds vs → Gs mu ρ = (.ok ds, mu1) → Q vs H1) : TADT K mg ex W Gs σ H Q := by
  refine ⟨al0, B0, H0, al, mu, B, ρ, S, ?_⟩
  cases hf : Gs mu ρ with
  | mk r mu1 =>
    cases r with
    | ok d => exact fun v al' B' H' x t r => k v al' mu1 B' H' d x t r hf
    | error e => exact hE e mu1 hf
theorem at_nil : PA X [] (TADT X.K X.mg ex W aNilT) := pa_nil.wk fun σ H Q ⟨al0, B0, H0, al, mu, B, ρ, S, q⟩ => q [] al B H (.refl S.gro.i') S.tb reps_nil
theorem at_cons (h : PE X e (TDT X.K X.mg ex W F)) (hr : PA X es (TADT X.K X.mg ex W Gs)) (hs : starEach (e :: es) X.env = (false, eval e X.env) :: starEach es X.env := by rfl) : PA X (e :: es) (TADT X.K X.mg ex W (aConsT F Gs)) := (pa_cons h hr hs).wk fun σ H Q ⟨al0, B0, H0, al, mu, B, ρ, S, q⟩ => by
  unfold aConsT at q
  refine tdt_i S (fun er mu' h => by rw [h] at q; exact q) fun v al1 mu1 B1 H1 d x t r e1 => ?_
  rw [e1] at q
  dsimp only at q
  refine tadt_i (S.grow x t) (fun er mu' h => ?_) fun vs al2 mu2 B2 H2 ds x2 t2 r2 e2 => ?_
  · rw [h] at q; exact fun al' B' H' y t' => q al' B' H' (x.trans y) t'
  · rw [e2] at q
    exact q _ al2 B2 H2 (x.trans x2) t2 (reps_cons (x2.rep r) r2)
theorem te_tup {x1} (h : PA X es (TADT X.K X.mg ex W Gs)) : PE X (.Tuple es x1 pos) (TDT X.K X.mg ex W (eTupT Gs)) := (pe_tup h).wk fun σ H Q ⟨al0, B0, H0, al, mu, B, ρ, S, q⟩ => by
  unfold eTupT at q
  refine tadt_i S (fun er mu' h => by rw [h] at q; exact q) fun vs al1 mu1 B1 H1 ds x t r e1 => ?_
  rw [e1] at q
  dsimp only at q
  split at q
  · rename_i hl
    refine ⟨by rw [reps_len r]; exact lim_of hl, fun p hp => ?_⟩
    have x2 := Ext.new (o := .tup vs) x.i' hp
    exact q _ al1 _ _ (x.trans (.of x2)) (t.mono x2) (rep_tup upd_same (reps_mono x2.b _ _ r))
  · exact (q al1 B1 H1 x t).elim
end

/-! ### what the written part says of the exceptions -/
theorem al0 {p : EC → Prop} : ∀ c ∈ ([] : List EC), p c := fun _ h => by cases h
theorem al1 {p : EC → Prop} {c : EC} {cs : List EC} (h : p c) (r : ∀ c ∈ cs, p c) : ∀ x ∈ c :: cs, p x := fun x hx => by
  rcases List.mem_cons.mp hx with e | e
  · rw [e]; exact h
  · exact r x e
section
variable {K : PySem.W.Frag} {mg : Str → Option Value} {h : Heap} {C D T f : Addr} {c t : EC} {x qual : Str} {st : Stmt} {ps : List Str} {b : Bool}
theorem due_mk (X : K.In h) (G : h.Ns mainGlobals mg) (a : PySem.W.nsIn K mainGlobals "DueError" = some (some (.ref D))) (h1 : PySem.W.specialIn K (.ref D) "__getattribute__" = some (some (.builtin "type.__getattribute__"))) (h2 : PySem.W.typeIn K (.ref D) = some (.type "type")) (h3 : PySem.W.readsIn K D (.type "type") = true)
    (h4 : PySem.W.findCls K (.ref D) (.type "type") "__init__" = some (.val (.builtin "ValueError.__init__"))) : DueT K mg := ⟨D, PySem.W.mg_of X G a, h1, h2, h3, h4⟩
theorem dx_mk (X : K.In h) (G : h.Ns mainGlobals mg) (a : PySem.W.nsIn K mainGlobals c.name = some (some (.ref C))) (h1 : PySem.W.subIn K (.ref D) (.type "BaseException") = some true) (h2 : PySem.W.hasDictIn K D = true) (h3 : PySem.W.typeIn K (.ref D) = some (.type "type")) (h4 : PySem.W.subIn K (.ref C) (.ref D) = some true) :
    ∃ C, mg c.name = some (.ref C) ∧ PySem.W.exmOne K (.ref C) (.ref D) = some true := ⟨C, PySem.W.mg_of X G a, PySem.W.exm_ref h1 h2 h3 h4⟩
theorem xc_mk (X : K.In h) (G : h.Ns mainGlobals mg) (a : PySem.W.nsIn K mainGlobals c.name = some (some (.ref D))) (h1 : XcK K D) : ∃ D, mg c.name = some (.ref D) ∧ XcK K D := ⟨D, PySem.W.mg_of X G a, h1⟩
theorem xa_mk (X : K.In h) (G : h.Ns mainGlobals mg) (a : PySem.W.nsIn K mainGlobals c.name = some (some (.ref D))) (h1 : XcK K D) (h2 : PySem.W.findIn K (.ref D) "at" = some none) : ∃ D, mg c.name = some (.ref D) ∧ XcK K D ∧ PySem.W.findIn K (.ref D) "at" = some none := ⟨D, PySem.W.mg_of X G a, h1, h2⟩
theorem xp_mk (X : K.In h) (G : h.Ns mainGlobals mg) (a : PySem.W.nsIn K mainGlobals c.name = some (some (.ref D))) (h1 : PySem.W.hasDictIn K T = true) (h2 : PySem.W.typeIn K (.ref T) = some (.type "type")) (h3 : PySem.W.subIn K (.ref D) (.ref T) = some b) (h4 : (b || decide (D ≠ T)) = true) (h5 : b = c.isa t) :
    ∃ D, mg c.name = some (.ref D) ∧ PySem.W.kitOne K (.ref D) (.ref T) = some (c.isa t) := by
  refine ⟨D, PySem.W.mg_of X G a, ?_⟩
  rw [← h5]
  unfold PySem.W.kitOne
  split
  · rename_i e
    have e : D = T := Value.ref.inj (beq_iff_eq.mp e)
    cases b with
    | true => rfl
    | false =>
      rw [Bool.false_or, decide_eq_true_eq] at h4
      exact (h4 e).elim
  · have s : (PySem.W.clsIn K T).isSome = true := by
      unfold PySem.W.hasDictIn at h1
      cases q : PySem.W.clsIn K T with
      | none => rw [q] at h1; cases h1
      | some cd => rfl
    show (if ((PySem.W.clsIn K T).isSome && PySem.W.typeIn K (.ref T) == some (.type "type")) = true then PySem.W.subIn K (.ref D) (.ref T) else none) = some b
    rw [s, h2, Bool.true_and, if_pos (by simp)]
    exact h3
theorem xv_mk (X : K.In h) (G : h.Ns mainGlobals mg) (a : PySem.W.nsIn K mainGlobals c.name = some (some (.ref D))) (h1 : PySem.W.subIn K (.ref D) (.type "ValueError") = some true) : ∃ D, mg c.name = some (.ref D) ∧ PySem.W.kitOne K (.ref D) (.type "ValueError") = some true := by
  refine ⟨D, PySem.W.mg_of X G a, ?_⟩
  have km : PySem.W.kitMeta "ValueError" = true := by decide +kernel
  show (if (Value.ref D == Value.type "ValueError") = true then some true else if PySem.W.kitMeta "ValueError" = true then PySem.W.subIn K (.ref D) (.type "ValueError") else none) = some true
  have ne : (Value.ref D == Value.type "ValueError") = false := beq_eq_false_iff_ne.mpr fun z => by cases z
  rw [ne, if_neg Bool.false_ne_true, if_pos km]
  exact h1
theorem oe_mk {oc : Value} {od an : Option Addr} {osl : Array (Option Value)} {kV doc pm cdv ct : Value} {nm q N bs bm sn sub ab col dd k0 k1 k2 k3 k5} (X : K.In h) (G : h.Ns mainGlobals mg) (a : PySem.W.nsIn K mainGlobals c.name = some (some (.ref C)))
    (lc : K.lookup C = some (excClassObj nm q C N bs bm true sn sub ab col dd k0 k1 k2 k3 k5 "ValueError.__new__")) (hb0 : PySem.HandSPX.refsVE bm = true) (sa : PySem.W.findIn K (.ref C) "__setattr__" = some (some (.builtin "object.__setattr__"))) (exC : PySem.W.subIn K (.ref C) (.type "BaseException") = some true)
    (tyC : PySem.W.typeIn K (.ref C) = some (.type "type")) (kC : PySem.W.keepIn K (.ref C) = true) (iC : PySem.W.findIn K (.ref C) "__init__" = some (some (.ref f))) (tI : PySem.W.typeIn K (.ref f) = some (.type "function")) (no : PySem.W.findIn K (.ref C) "at" = some none)
    (l : K.lookup f = some ⟨oc, od, .func (PySem.W.fnOf "__init__" qual (defArgs st) (defBody st) (defScope st) .none kV doc pm an cdv ct), osl⟩) (cc : PySem.W.codeIn K cdv qual = true) (k : PySem.W.keepIn K (.ref f) = true)
    (hb : ∀ (kV doc pm : Value) (an : Option Addr) (cdv ct : Value) (us : List Value), us.length = ps.length → bindArgs (PySem.W.fnOf "__init__" qual (defArgs st) (defBody st) (defScope st) .none kV doc pm an cdv ct) ⟨us, []⟩ = pure (ps.zip us)) : OE1 K mg c qual st ps :=
  ⟨C, f, _, PySem.W.mg_of X G a, ⟨⟨nm, q, N, bs, bm, sn, sub, ab, col, dd, k0, k1, k2, k3, k5, lc, hb0⟩, sa, exC, tyC, kC⟩, iC, tI, no, fun_mk l cc k, (fun_mk l cc k).binds hb⟩
/-- a name in a V-reading -/
theorem pv {X : Cx} {x : Str} {pos : Pos} (i : Nat) (hN : X.N[i]? = some x := by rfl) (hv : Vis X.env.scope x := by first | exact Or.inl rfl | exact Or.inr (Or.inl rfl) | exact Or.inr (Or.inr rfl)) (hd : (x == ("__debug__" : Str)) = false := by decide) (hcd : (x == ("__classdict__" : Str)) = false := by decide) : PE X (.Name x pos) (tVar i) := pe_var hN hv hd hcd
end
end DL

namespace DL
open PySem PySem.Spec PyProof.Rows L2

/-! ### plain: lists of whole numbers, places, cuts, likeness -/
abbrev intL (xs : List Int) : D := .lst (xs.map D.int)
theorem atI_nat {α : Type} {xs : List α} {k : Int} (h0 : 0 ≤ k) (h1 : k.toNat < xs.length) : atI xs k = xs[k.toNat]? := by
  unfold atI ixN
  rw [if_pos h0, if_pos (by omega)]
  rfl
theorem atI_last {α : Type} {xs : List α} (h : xs ≠ []) : atI xs (-1) = xs[xs.length - 1]? := by
  have hl : 0 < xs.length := List.length_pos_iff.mpr h
  unfold atI ixN
  rw [if_neg (by omega), if_pos (by omega)]
  show xs[((-1 : Int) + (xs.length : Int)).toNat]? = _
  congr 1
  omega
theorem item_intL {xs : List Int} {k : Int} (h0 : 0 ≤ k) (h1 : k.toNat < xs.length) : D.item (intL xs) (.int k) = some (.int (xs.getD k.toNat 0)) := by
  show atI (xs.map D.int) k = _
  rw [atI_nat h0 (by rw [List.length_map]; exact h1), List.getElem?_map, List.getD_eq_getElem?_getD, List.getElem?_eq_getElem h1]
  rfl
theorem item_scr {xs : List Int} {k : Int} (h0 : 0 ≤ k) (h1 : k.toNat < xs.length) : D.item (scr xs) (.int k) = some (.int (xs.getD k.toNat 0)) := item_intL h0 h1
theorem cut_map {α β : Type} (f : α → β) (xs : List α) (lo hi : Option Int) : cut (xs.map f) lo hi = (cut xs lo hi).map f := by
  unfold cut
  rw [List.length_map, List.map_take, List.map_drop]
theorem cut_to {α : Type} (xs : List α) {k : Int} (h : 0 ≤ k) : cut xs none (some k) = xs.take k.toNat := by
  unfold cut HT.sIx
  simp only [List.drop_zero, Nat.sub_zero]
  rw [if_neg (by omega), List.take_eq_take_iff]
  omega
theorem cut_from {α : Type} (xs : List α) {k : Int} (h : 0 ≤ k) : cut xs (some k) none = xs.drop k.toNat := by
  unfold cut HT.sIx
  simp only []
  rw [if_neg (by omega)]
  have e : min k.toNat xs.length = k.toNat ∨ xs.length ≤ k.toNat := by omega
  rcases e with e | e
  · rw [e, List.take_of_length_le (by simp)]
  · rw [List.drop_of_length_le e, Nat.min_eq_right e, Nat.sub_self, List.take_zero]
theorem cut_butlast {α : Type} (xs : List α) : cut xs none (some (-1)) = xs.dropLast := by
  unfold cut HT.sIx
  simp only [List.drop_zero, Nat.sub_zero]
  rw [if_pos (by omega), List.dropLast_eq_take]
  congr 1
  omega
theorem cut_last {α : Type} (xs : List α) : cut xs (some (-1)) none = xs.drop (xs.length - 1) := by
  unfold cut HT.sIx
  simp only []
  rw [if_pos (by omega)]
  have e : ((-1 : Int) + (xs.length : Int)).toNat = xs.length - 1 := by omega
  rw [e, List.take_of_length_le (by simp)]
theorem toPs_map {α : Type} (f : α → D) : ∀ xs : List α, toPs (xs.map f) = xs.map fun x => (f x).toP
  | [] => by simp only [List.map_nil, toPs]
  | x :: xs => by simp only [List.map_cons, toPs, toPs_map f xs]
theorem eqvAll_ints : ∀ xs ys : List Int, PyData.eqvAll (xs.map PyData.int) (ys.map PyData.int) = decide (xs = ys)
  | [], [] => by simp [PyData.eqvAll]
  | [], _ :: _ => by simp [PyData.eqvAll]
  | _ :: _, [] => by simp [PyData.eqvAll]
  | x :: xs, y :: ys => by
    simp only [List.map_cons, PyData.eqvAll, PyData.eqv, eqvAll_ints xs ys]
    by_cases h : x = y
    · by_cases g : xs = ys
      · simp [h, g]
      · simp [g]
    · simp [h]
theorem intL_toP (xs : List Int) : (intL xs).toP = .list (xs.map PyData.int) := by
  unfold intL
  rw [D.toP, toPs_map]
  rfl
theorem canLay_ints : ∀ xs : List Int, PyData.canLayAll0 (xs.map PyData.int) = true
  | [] => rfl
  | x :: xs => by simp [PyData.canLayAll0, PyData.canLay0, canLay_ints xs]
theorem depth_ints : ∀ xs : List Int, PyData.depthAll (xs.map PyData.int) = 0
  | [] => rfl
  | x :: xs => by simp [PyData.depthAll, PyData.depth, depth_ints xs]
theorem shaped_intL (xs : List Int) : SeqAt.shaped (intL xs).toP = true := by
  rw [intL_toP]
  unfold SeqAt.shaped
  simp [PyData.canLay0, PyData.depth, canLay_ints, depth_ints]
theorem eq_intL (xs ys : List Int) : D.eq (intL xs) (intL ys) = some (.bl (decide (xs = ys))) := by
  unfold D.eq
  rw [shaped_intL, shaped_intL, if_pos (show (true && true) = true from rfl), intL_toP, intL_toP]
  simp only [PyData.eqv, eqvAll_ints]
theorem ne_intL (xs ys : List Int) : D.ne (intL xs) (intL ys) = some (.bl (!decide (xs = ys))) := by
  unfold D.ne
  rw [shaped_intL, shaped_intL, if_pos (show (true && true) = true from rfl), intL_toP, intL_toP]
  simp only [PyData.eqv, eqvAll_ints]
theorem eq_int (a b : Int) : D.eq (.int a) (.int b) = some (.bl (decide (a = b))) := by
  show some _ = _
  congr 2
theorem ne_int (a b : Int) : D.ne (.int a) (.int b) = some (.bl (!decide (a = b))) := by
  show some (D.bl (!PyData.eqv _ _)) = _
  congr 3
theorem ne_str (a b : Str) (ha : SeqAt.shaped (.str a) = true) (hb : SeqAt.shaped (.str b) = true) : D.ne (.str a) (.str b) = some (.bl (!decide (a = b))) := by
  unfold D.ne
  simp only [D.toP, ha, hb, Bool.and_self, if_pos, PyData.eqv]
  rfl
/-- a comprehension whose items all are told -/
theorem lcGo_map {α : Type} {b : D → Sto → Option Sto} {c : Sto → M Bool} {e : Sto → M D} {ρ : Sto} (f g : α → D) : ∀ xs : List α, (∀ x ∈ xs, ∃ ρ1, b (f x) ρ = some ρ1 ∧ c ρ1 = .ok true ∧ e ρ1 = .ok (g x)) → lcGo b c e ρ (xs.map f) = .ok (xs.map g)
  | [], _ => rfl
  | x :: xs, h => by
    obtain ⟨ρ1, h1, h2, h3⟩ := h x (List.mem_cons_self ..)
    have ih := lcGo_map f g xs fun y hy => h y (List.mem_cons_of_mem _ hy)
    simp only [List.map_cons, lcGo, h1, h2, h3, ih]
theorem blsD_map (xs : List Bool) : blsD (xs.map D.bl) = some xs := by
  induction xs with
  | nil => rfl
  | cons x xs ih => simp [blsD, ih]
theorem intsD_map (xs : List Int) : intsD (xs.map D.int) = some xs := by
  induction xs with
  | nil => rfl
  | cons x xs ih => simp [intsD, ih]
end DL

namespace DL
open PySem PySem.Spec PyProof.Rows L2

/-! ### the mirrors' words, told at a store -/
@[simp] theorem bind_ok {α β : Type} (a : α) (f : α → M β) : Except.bind (Except.ok a : M α) f = f a := rfl
@[simp] theorem bind_er {α β : Type} (e : Er) (f : α → M β) : Except.bind (Except.error e : M α) f = .error e := rfl
@[simp] theorem opt_some {α : Type} (a : α) : (opt (some a) : M α) = .ok a := rfl
@[simp] theorem opt_none {α : Type} : (opt none : M α) = .error .stuck := rfl
@[simp] theorem asB_bl (b : Bool) : asB (.ok (.bl b)) = .ok b := rfl
@[simp] theorem asB_er (e : Er) : asB (.error e) = .error e := rfl
section
variable {ρ : Sto} {f f1 f2 f3 : Sto → M D} {g h : Sto → Res} {c c' : Sto → M Bool} {a : Sto → M (List D)} {i j : Nat} {d : D}
@[simp] theorem a_var : eVar i ρ = (match ρ[i]? with | some (some (.sh d)) => .ok d | _ => .error .stuck) := rfl
@[simp] theorem a_rd : eRd i ρ = (match ρ[i]? with | some (some (.sh d)) => .ok d | some (some (.ow d)) => .ok d | _ => .error .stuck) := rfl
@[simp] theorem a_c : eC d ρ = .ok d := rfl
@[simp] theorem a_bin {o : D → D → Option D} : eBin o f1 f2 ρ = (f1 ρ).bind fun a => (f2 ρ).bind fun b => opt (o a b) := rfl
@[simp] theorem a_un {o : D → Option D} : eUn o f1 ρ = (f1 ρ).bind fun a => opt (o a) := rfl
@[simp] theorem a_chain {o o' : D → D → Option D} : eChain o o' f1 f2 f3 ρ = (f1 ρ).bind fun a => (f2 ρ).bind fun b => (asB (opt (o a b))).bind fun k => if k then (f3 ρ).bind fun c => opt (o' b c) else .ok (.bl false) := rfl
@[simp] theorem a_bV : bV f ρ = asB (f ρ) := rfl
@[simp] theorem a_bAnd : bAnd c c' ρ = (c ρ).bind fun k => if k then c' ρ else .ok false := rfl
@[simp] theorem a_bOr : bOr c c' ρ = (c ρ).bind fun k => if k then .ok true else c' ρ := rfl
@[simp] theorem a_bNot : bNot c ρ = (c ρ).bind fun k => .ok (!k) := rfl
@[simp] theorem a_bYes : bYes ρ = .ok true := rfl
@[simp] theorem a_and : eAnd f f2 ρ = (asB (f ρ)).bind fun k => if k then f2 ρ else .ok (.bl false) := rfl
@[simp] theorem a_or : eOr f f2 ρ = (asB (f ρ)).bind fun k => if k then .ok (.bl true) else f2 ρ := rfl
@[simp] theorem a_not : eNot f ρ = (asB (f ρ)).bind fun k => .ok (.bl (!k)) := rfl
@[simp] theorem a_if : eIf c f f2 ρ = (c ρ).bind fun k => if k then f ρ else f2 ρ := rfl
@[simp] theorem a_nil : aNil ρ = .ok [] := rfl
@[simp] theorem a_cons : aCons f a ρ = (f ρ).bind fun d => (a ρ).bind fun ds => .ok (d :: ds) := rfl
@[simp] theorem a_tup : eTup a ρ = (a ρ).bind fun ds => if lim ds.length then .ok (.tup ds) else .error .stuck := rfl
@[simp] theorem a_lst : eLst a ρ = (a ρ).bind fun ds => if lim ds.length then .ok (.lst ds) else .error .stuck := rfl
@[simp] theorem a_call {o : List D → Option D} : eCall o a ρ = (a ρ).bind fun ds => opt (o ds) := rfl
@[simp] theorem a_fn {m : List D → M D} : eFn m a ρ = (a ρ).bind m := rfl
@[simp] theorem a_isi {T : String} : eIsi T f ρ = (f ρ).bind fun d => opt (d.ty.map fun t => .bl (isiB t T)) := rfl
@[simp] theorem a_oNo : oNo ρ = .ok none := rfl
@[simp] theorem a_oI : oI f ρ = (match f ρ with | .ok (.int i) => .ok (some i) | .ok _ => .error .stuck | .error e => .error e) := rfl
@[simp] theorem a_sl {lo hi : Sto → M (Option Int)} : eSl f lo hi ρ = (f ρ).bind fun d => (lo ρ).bind fun l => (hi ρ).bind fun h => opt (d.slice l h) := rfl
@[simp] theorem a_slL {lo hi : Sto → M (Option Int)} : eSlL f lo hi ρ = (f ρ).bind fun d => (lo ρ).bind fun l => (hi ρ).bind fun h => opt (sliceL d l h) := rfl
@[simp] theorem a_lc {b : D → Sto → Option Sto} {is : List Nat} : eLc a b c f is ρ = (match a ρ with
  | .error er => .error er
  | .ok ds => if lim ds.length then (match lcGo b c f (wipeS ρ is) ds with
    | .ok ys => .ok (.lst ys)
    | .error _ => .error .stuck) else .error .stuck) := rfl
@[simp] theorem a_iL : iL f ρ = (match f ρ with | .ok (.lst ds) => .ok ds | .ok (.fls ds) => .ok ds | .ok _ => .error .stuck | .error e => .error e) := rfl
@[simp] theorem a_iT : iT f ρ = (match f ρ with | .ok (.tup ds) => .ok ds | .ok (.ctp ds) => .ok ds | .ok _ => .error .stuck | .error e => .error e) := rfl
@[simp] theorem a_seq : sSeq g h ρ = (match g ρ with | .nx ρ' => h ρ' | r => r) := rfl
@[simp] theorem a_snil : sNil ρ = .nx ρ := rfl
@[simp] theorem a_set : sSet i f ρ = (match f ρ with | .ok d => .nx (ρ.set i (some (.sh d))) | .error e => .er e ρ) := rfl
@[simp] theorem a_setF : sSetF i f ρ = (match f ρ with | .ok d => .nx (ρ.set i (some (.ow d))) | .error e => .er e ρ) := rfl
@[simp] theorem a_expr : sExpr f ρ = (match f ρ with | .ok _ => .nx ρ | .error e => .er e ρ) := rfl
@[simp] theorem a_ret : sRet f ρ = (match f ρ with | .ok d => .rt (.sh d) | .error e => .er e ρ) := rfl
@[simp] theorem a_retF : sRetF f ρ = (match f ρ with | .ok d => .rt (.ow d) | .error e => .er e ρ) := rfl
@[simp] theorem a_retO : sRetO i ρ = (match ρ[i]? with | some (some s) => .rt s | _ => .er .stuck ρ) := rfl
@[simp] theorem a_retN : sRetN ρ = .rt (.sh .non) := rfl
@[simp] theorem a_sIf : sIf c g h ρ = (match c ρ with | .ok true => g ρ | .ok false => h ρ | .error e => .er e ρ) := rfl
@[simp] theorem a_break : sBreak ρ = .bk ρ := rfl
@[simp] theorem a_cont : sCont ρ = .ct ρ := rfl
@[simp] theorem a_raise {ec : EC} {o : Option Int} : sRaise ec o ρ = .er (.exc ec o) ρ := rfl
@[simp] theorem a_while {μ : Sto → Nat} : sWhile μ c g ρ = wl c g (μ ρ) ρ := rfl
@[simp] theorem a_for {b : D → Sto → Option Sto} : sFor a b g ρ = (match a ρ with | .ok ds => fl b g ds ρ | .error e => .er e ρ) := rfl
@[simp] theorem a_frz : sFrz i g ρ = (match ρ[i]? with | some (some (.ow d)) => g (ρ.set i (some (.sh d))) | _ => g ρ) := rfl
@[simp] theorem a_unp {b : D → Sto → Option Sto} : sUnp f b ρ = (match f ρ with | .error e => .er e ρ | .ok d => match b d ρ with | some ρ' => .nx ρ' | none => .er .stuck ρ) := rfl
@[simp] theorem a_par : sPar i j a ρ = (match a ρ with | .error e => .er e ρ | .ok [x, y] => .nx ((ρ.set i (some (.sh x))).set j (some (.sh y))) | .ok _ => .er .stuck ρ) := rfl
@[simp] theorem a_owL {k : List D → Res} : owL i ρ k = (match ρ[i]? with | some (some (.ow (.lst ds))) => k ds | _ => .er .stuck ρ) := rfl
@[simp] theorem a_app : sApp i f ρ = owL i ρ fun ds => match f ρ with | .error e => .er e ρ | .ok d => if lim ds.length then .nx (ρ.set i (some (.ow (.lst (ds ++ [d]))))) else .er .stuck ρ := rfl
@[simp] theorem a_ext : sExt i f ρ = owL i ρ fun ds => match f ρ with | .error e => .er e ρ | .ok (.lst es) => if lim (ds.length + es.length) then .nx (ρ.set i (some (.ow (.lst (ds ++ es))))) else .er .stuck ρ | .ok _ => .er .stuck ρ := rfl
@[simp] theorem a_put : sPut i f2 f ρ = owL i ρ fun ds => match f ρ with | .error e => .er e ρ | .ok d => match f2 ρ with | .error e => .er e ρ | .ok (.int j) => (match ixN ds.length j with | some n => .nx (ρ.set i (some (.ow (.lst (ds.set n d))))) | none => .er .stuck ρ) | .ok _ => .er .stuck ρ := rfl
@[simp] theorem a_aug {o : Int → Int → Int} : sAug i o f ρ = (match ρ[i]? with | some (some (.sh (.int a))) => (match f ρ with | .ok (.int b) => .nx (ρ.set i (some (.sh (.int (o a b))))) | .ok _ => .er .stuck ρ | .error e => .er e ρ) | _ => .er .stuck ρ) := rfl
@[simp] theorem a_nm {x : D} : gNm i x ρ = some (ρ.set i (some (.sh x))) := rfl
@[simp] theorem a_gnil : gsNil [] ρ = some ρ := rfl
@[simp] theorem a_gcons {b : D → Sto → Option Sto} {bs : List D → Sto → Option Sto} {x : D} {xs : List D} : gsCons b bs (x :: xs) ρ = (b x ρ).bind fun ρ' => bs xs ρ' := rfl
@[simp] theorem a_gtp {n : Nat} {bs : List D → Sto → Option Sto} {xs : List D} : gTp n bs (.tup xs) ρ = if xs.length = n then bs xs ρ else none := rfl
@[simp] theorem out_rs (d : D) : (Res.rt (.sh d)).out = .ok d := rfl
@[simp] theorem out_ro (d : D) : (Res.rt (.ow d)).out = .ok d := rfl
@[simp] theorem out_nx : (Res.nx ρ).out = .ok .non := rfl
@[simp] theorem out_er {e : Er} : (Res.er e ρ).out = .error e := rfl
@[simp] theorem outF_ro (d : D) : (Res.rt (.ow d)).outF = .ok d := rfl
@[simp] theorem outF_er {e : Er} : (Res.er e ρ).outF = .error e := rfl
@[simp] theorem a_runD {n : Nat} {g : Sto → Res} {ds : List D} {k : Nat} : runD n k g ds = if ds.length = k then (g (startS n ds)).out else .error .stuck := rfl
@[simp] theorem a_runF {n : Nat} {g : Sto → Res} {ds : List D} {k : Nat} : runF n k g ds = if ds.length = k then (g (startS n ds)).outF else .error .stuck := rfl
@[simp] theorem a_start {n : Nat} {ds : List D} : startS n ds = ds.map (fun d => some (Sl.sh d)) ++ List.replicate (n - ds.length) none := rfl
@[simp] theorem a_wipe0 : wipeS ρ [] = ρ := rfl
@[simp] theorem a_wipe {v : Nat} {vs : List Nat} : wipeS ρ (v :: vs) = (wipeS ρ vs).set v none := rfl
end
section
@[simp] theorem p_add (a b : Int) : D.add (.int a) (.int b) = some (.int (a + b)) := rfl
@[simp] theorem p_sub (a b : Int) : D.sub (.int a) (.int b) = some (.int (a - b)) := rfl
@[simp] theorem p_neg (a : Int) : D.neg (.int a) = some (.int (-a)) := rfl
@[simp] theorem p_cmp (p : Int → Int → Bool) (a b : Int) : cmpI p (.int a) (.int b) = some (.bl (p a b)) := rfl
@[simp] theorem p_len (xs : List Int) : gLen [intL xs] = some (.int xs.length) := by simp [gLen, intL, D.items]
@[simp] theorem p_eqi (a b : Int) : D.eq (.int a) (.int b) = some (.bl (decide (a = b))) := eq_int a b
@[simp] theorem p_nei (a b : Int) : D.ne (.int a) (.int b) = some (.bl (!decide (a = b))) := ne_int a b
@[simp] theorem p_eqL (a b : List Int) : D.eq (intL a) (intL b) = some (.bl (decide (a = b))) := eq_intL a b
@[simp] theorem p_neL (a b : List Int) : D.ne (intL a) (intL b) = some (.bl (!decide (a = b))) := ne_intL a b
end
end DL

namespace DL
open PySem PySem.Spec PyProof.Rows L2

/-! ### equal to itself -/
mutual
def dk : D → Nat → Bool
  | .non, _ => true
  | .bl _, _ => true
  | .int _, _ => true
  | .str x, _ => PyData.canLay0 (.str x)
  | .lst ds, n + 1 => dks ds n
  | .fls ds, n + 1 => dks ds n
  | .tup ds, n + 1 => dks ds n
  | .ctp ds, n + 1 => dks ds n
  | _, _ => false
def dks : List D → Nat → Bool
  | [], _ => true
  | d :: ds, n => dk d n && dks ds n
end
mutual
theorem dk_lay : ∀ (d : D) (n : Nat), dk d n = true → PyData.canLay0 d.toP = true ∧ PyData.depth d.toP ≤ n
  | .non, n, _ => by simp [D.toP, PyData.canLay0, PyData.depth]
  | .bl _, n, _ => by simp [D.toP, PyData.canLay0, PyData.depth]
  | .int _, n, _ => by simp [D.toP, PyData.canLay0, PyData.depth]
  | .str x, n, h => by
    simp only [dk] at h
    simp [D.toP, PyData.depth, h]
  | .lst ds, n + 1, h => by
    simp only [dk] at h
    obtain ⟨h1, h2⟩ := dks_lay ds n h
    simp only [D.toP, PyData.canLay0, PyData.depth]
    exact ⟨h1, by omega⟩
  | .fls ds, n + 1, h => by
    simp only [dk] at h
    obtain ⟨h1, h2⟩ := dks_lay ds n h
    simp only [D.toP, PyData.canLay0, PyData.depth]
    exact ⟨h1, by omega⟩
  | .tup ds, n + 1, h => by
    simp only [dk] at h
    obtain ⟨h1, h2⟩ := dks_lay ds n h
    simp only [D.toP, PyData.canLay0, PyData.depth]
    exact ⟨h1, by omega⟩
  | .ctp ds, n + 1, h => by
    simp only [dk] at h
    obtain ⟨h1, h2⟩ := dks_lay ds n h
    simp only [D.toP, PyData.canLay0, PyData.depth]
    exact ⟨h1, by omega⟩
  | .lst ds, 0, h => by simp [dk] at h
  | .fls ds, 0, h => by simp [dk] at h
  | .tup ds, 0, h => by simp [dk] at h
  | .ctp ds, 0, h => by simp [dk] at h
  | .dic _, n, h => by cases n <;> simp [dk] at h
  | .obj _ _, n, h => by cases n <;> simp [dk] at h
  | .hdl _, n, h => by cases n <;> simp [dk] at h
theorem dks_lay : ∀ (ds : List D) (n : Nat), dks ds n = true → PyData.canLayAll0 (toPs ds) = true ∧ PyData.depthAll (toPs ds) ≤ n
  | [], n, _ => by simp [toPs, PyData.canLayAll0, PyData.depthAll]
  | d :: ds, n, h => by
    simp only [dks, Bool.and_eq_true] at h
    obtain ⟨h1, h2⟩ := dk_lay d n h.1
    obtain ⟨h3, h4⟩ := dks_lay ds n h.2
    simp only [toPs, PyData.canLayAll0, PyData.depthAll, h1, h3, Bool.and_self, true_and]
    omega
end
theorem dk_shaped {d : D} {n : Nat} (h : dk d n = true) (hn : n ≤ 64) : SeqAt.shaped d.toP = true := by
  obtain ⟨h1, h2⟩ := dk_lay d n h
  unfold SeqAt.shaped
  rw [h1, decide_eq_true (by omega)]
  rfl
mutual
theorem eqv_refl : ∀ x : PyData, PyData.canLay0 x = true → PyData.eqv x x = true
  | .none, _ => by simp [PyData.eqv]
  | .bool b, _ => by simp [PyData.eqv]
  | .int i, _ => by simp [PyData.eqv]
  | .str x, _ => by simp [PyData.eqv]
  | .list xs, h => by
    simp only [PyData.canLay0] at h
    simp only [PyData.eqv]
    exact eqvs_refl xs h
  | .tuple xs, h => by
    simp only [PyData.canLay0] at h
    simp only [PyData.eqv]
    exact eqvs_refl xs h
  | .dict _, h => by simp [PyData.canLay0] at h
theorem eqvs_refl : ∀ xs : List PyData, PyData.canLayAll0 xs = true → PyData.eqvAll xs xs = true
  | [], _ => by simp [PyData.eqvAll]
  | x :: xs, h => by
    simp only [PyData.canLayAll0, Bool.and_eq_true] at h
    simp only [PyData.eqvAll, eqv_refl x h.1, eqvs_refl xs h.2, Bool.and_self]
end
theorem eq_self {d : D} {n : Nat} (h : dk d n = true) (hn : n ≤ 64) : D.eq d d = some (.bl true) := by
  unfold D.eq
  rw [dk_shaped h hn, eqv_refl _ (dk_lay d n h).1]
  rfl
theorem ne_self {d : D} {n : Nat} (h : dk d n = true) (hn : n ≤ 64) : D.ne d d = some (.bl false) := by
  unfold D.ne
  rw [dk_shaped h hn, eqv_refl _ (dk_lay d n h).1]
  rfl
theorem eq_of {d e : D} {n m : Nat} {b : Bool} (h : dk d n = true) (k : dk e m = true) (hn : n ≤ 64) (hm : m ≤ 64) (he : PyData.eqv d.toP e.toP = b) : D.eq d e = some (.bl b) := by
  unfold D.eq
  rw [dk_shaped h hn, dk_shaped k hm, he]
  rfl
theorem ne_of {d e : D} {n m : Nat} {b : Bool} (h : dk d n = true) (k : dk e m = true) (hn : n ≤ 64) (hm : m ≤ 64) (he : PyData.eqv d.toP e.toP = b) : D.ne d e = some (.bl (!b)) := by
  unfold D.ne
  rw [dk_shaped h hn, dk_shaped k hm, he]
  rfl
theorem eq_nil0 {ds : List D} {n : Nat} (h : dk (.lst ds) n = true) (hn : n ≤ 64) : D.eq (.lst ds) (.lst []) = some (.bl ds.isEmpty) := by
  refine eq_of h (show dk (.lst []) 1 = true by simp [dk, dks]) hn (by omega) ?_
  cases ds with
  | nil => simp [D.toP, toPs, PyData.eqv, PyData.eqvAll]
  | cons d ds => simp [D.toP, toPs, PyData.eqv, PyData.eqvAll]
theorem dks_int : ∀ (ws : List Int) (n : Nat), dks (ws.map D.int) n = true
  | [], _ => by simp [dks]
  | w :: ws, n => by
    rw [List.map_cons, dks, dks_int ws n, Bool.and_true]
    simp [dk]
theorem dks_app : ∀ (xs ys : List D) (n : Nat), dks (xs ++ ys) n = (dks xs n && dks ys n)
  | [], ys, n => by simp [dks]
  | x :: xs, ys, n => by rw [List.cons_append, dks, dks_app xs ys n, dks, Bool.and_assoc]
theorem dks_of {ds : List D} {n : Nat} (h : ∀ d ∈ ds, dk d n = true) : dks ds n = true := by
  induction ds with
  | nil => simp [dks]
  | cons d ds ih => rw [dks, h d (List.mem_cons_self ..), ih fun x hx => h x (List.mem_cons_of_mem _ hx)]; rfl
theorem str_eq (x y : Str) (hx : PyData.canLay0 (.str x) = true) (hy : PyData.canLay0 (.str y) = true) : D.eq (.str x) (.str y) = some (.bl (x == y)) :=
  eq_of (n := 0) (m := 0) (by simp [dk, hx]) (by simp [dk, hy]) (by omega) (by omega) (by simp [D.toP, PyData.eqv])
theorem str_ne (x y : Str) (hx : PyData.canLay0 (.str x) = true) (hy : PyData.canLay0 (.str y) = true) : D.ne (.str x) (.str y) = some (.bl (!(x == y))) :=
  ne_of (n := 0) (m := 0) (by simp [dk, hx]) (by simp [dk, hy]) (by omega) (by omega) (by simp [D.toP, PyData.eqv])
end DL

namespace DL
open PySem PySem.Spec PyProof.Rows L2

/-! ### the mirrors' words, told: objects, lists that several may know -/
section
variable {ρ : Sto} {mu : Tbl} {f F o : Sto → M D} {a : Sto → M (List D)} {cn x : Str} {m : List D → M D} {i : Nat} {d : D}
@[simp] theorem a_fld : eFld mu cn x F ρ = (F ρ).bind fun d => opt ((objOf mu cn d).bind fun fs => fs.lookup x) := rfl
@[simp] theorem a_cel : eCel mu F ρ = (F ρ).bind fun d => opt ((lstOf mu d).map D.lst) := rfl
@[simp] theorem a_cv : eCv mu i ρ = (eRd i ρ).map (resC mu) := rfl
@[simp] theorem map_ok {α β : Type} (f : α → β) (a : α) : Except.map f (Except.ok a : M α) = .ok (f a) := rfl
@[simp] theorem a_mt : eMt mu cn x m o a ρ = (o ρ).bind fun d => if canM mu cn x d then (a ρ).bind fun ds => m (d :: ds) else .error .stuck := rfl
@[simp] theorem a_fnB : eFnB mu m a ρ = (a ρ).bind fun ds => match resAs mu ds with
  | none => .error .stuck
  | some es => (m es).bind fun d => if flatD d then .ok d else .error .stuck := rfl
@[simp] theorem a_appX {g : Sto → M D} : sAppX f g ρ = (match f ρ with
  | .error e => .er e ρ
  | .ok (.lst ds) => (match g ρ with
    | .error e => .er e ρ
    | .ok d => if lim ds.length then .nx ρ else .er .stuck ρ)
  | .ok _ => .er .stuck ρ) := rfl
@[simp] theorem a_glst {n : Nat} {bs : List D → Sto → Option Sto} {xs : List D} : gLs n bs (.lst xs) ρ = if xs.length = n then bs xs ρ else none := rfl
@[simp] theorem a_gctp {n : Nat} {bs : List D → Sto → Option Sto} {xs : List D} : gTp n bs (.ctp xs) ρ = if xs.length = n then bs xs ρ else none := rfl
end
section
variable {ρ : Sto} {mu : Tbl} {F : TF1} {g h : TS1} {f1 f2 fo fk : Tbl → Sto → M D} {a : Tbl → Sto → M (List D)} {cn x : Str} {m : MF} {i : Nat} {d : D} {c c' : Tbl → Sto → M Bool × Tbl}
@[simp] theorem t_P {g : Tbl → Sto → Res} : sP g mu ρ = (g mu ρ, mu) := rfl
@[simp] theorem t_eP : eP f1 mu ρ = (f1 mu ρ, mu) := rfl
@[simp] theorem t_bP {c : Tbl → Sto → M Bool} : bP c mu ρ = (c mu ρ, mu) := rfl
@[simp] theorem t_seq : sSeqT g h mu ρ = (match g mu ρ with | (.nx ρ', mu') => h mu' ρ' | r => r) := rfl
@[simp] theorem t_nil : sNilT mu ρ = (.nx ρ, mu) := rfl
@[simp] theorem t_on {k : D → TS1} : sOnT F k mu ρ = (match F mu ρ with | (.ok d, mu') => k d mu' ρ | (.error e, mu') => (.er e ρ, mu')) := rfl
@[simp] theorem t_set : sSetT i F mu ρ = (match F mu ρ with | (.ok d, mu') => (.nx (ρ.set i (some (.sh d))), mu') | (.error e, mu') => (.er e ρ, mu')) := rfl
@[simp] theorem t_expr : sExprT F mu ρ = (match F mu ρ with | (.ok d, mu') => (.nx ρ, mu') | (.error e, mu') => (.er e ρ, mu')) := rfl
@[simp] theorem t_ret : sRetT F mu ρ = (match F mu ρ with | (.ok d, mu') => (.rt (.sh d), mu') | (.error e, mu') => (.er e ρ, mu')) := rfl
@[simp] theorem t_if : sIfT c g h mu ρ = (match c mu ρ with | (.ok true, mu') => g mu' ρ | (.ok false, mu') => h mu' ρ | (.error e, mu') => (.er e ρ, mu')) := rfl
@[simp] theorem t_for {f : Tbl → Sto → M (List D)} {b : D → Sto → Option Sto} : sForT f b g mu ρ = (match f mu ρ with | .ok ds => flT b g ds mu ρ | .error e => (.er e ρ, mu)) := rfl
@[simp] theorem t_fld : sFldT cn x fo F mu ρ = (match F mu ρ with
  | (.ok d, mu') => (match fo mu' ρ with
    | .error e => (.er e ρ, mu')
    | .ok (.hdl n) => (match objOf mu' cn (.hdl n) with
      | some fs => if fs.length < 1000 then (.nx ρ, mu'.set n (.obj cn (putD x d fs))) else (.er .stuck ρ, mu')
      | none => (.er .stuck ρ, mu'))
    | .ok _ => (.er .stuck ρ, mu'))
  | (.error e, mu') => (.er e ρ, mu')) := rfl
@[simp] theorem t_appC : sAppC fo f1 mu ρ = (match fo mu ρ with
  | .error e => (.er e ρ, mu)
  | .ok (.hdl n) => (match lstOf mu (.hdl n) with
    | none => (.er .stuck ρ, mu)
    | some ds => match f1 mu ρ with
      | .error e => (.er e ρ, mu)
      | .ok d => if lim ds.length then (.nx ρ, mu.set n (.lst (ds ++ [d]))) else (.er .stuck ρ, mu))
  | .ok _ => (.er .stuck ρ, mu)) := rfl
@[simp] theorem t_popC : ePopC fo mu ρ = (match fo mu ρ with
  | .error e => (.error e, mu)
  | .ok (.hdl n) => (match lstOf mu (.hdl n) with
    | none => (.error .stuck, mu)
    | some ds => match ds[ds.length - 1]? with
      | some d => (.ok d, mu.set n (.lst ds.dropLast))
      | none => (.error .stuck, mu))
  | .ok _ => (.error .stuck, mu)) := rfl
@[simp] theorem t_app : sAppT i F mu ρ = (match ρ[i]? with
  | some (some (.ow (.lst ds))) => (match F mu ρ with
    | (.ok d, mu') => if lim ds.length then (.nx (ρ.set i (some (.ow (.lst (ds ++ [d]))))), mu') else (.er .stuck ρ, mu')
    | (.error e, mu') => (.er e ρ, mu'))
  | _ => (.er .stuck ρ, mu)) := rfl
@[simp] theorem t_putC : sPutC fo fk f1 mu ρ = (match f1 mu ρ with
  | .error e => (.er e ρ, mu)
  | .ok d => match fo mu ρ with
    | .error e => (.er e ρ, mu)
    | .ok (.hdl n) => (match lstOf mu (.hdl n) with
      | none => (.er .stuck ρ, mu)
      | some ds => match fk mu ρ with
        | .error e => (.er e ρ, mu)
        | .ok (.int j) => (match ixN ds.length j with
          | some i => (.nx ρ, mu.set n (.lst (ds.set i d)))
          | none => (.er .stuck ρ, mu))
        | .ok _ => (.er .stuck ρ, mu))
    | .ok _ => (.er .stuck ρ, mu)) := rfl
@[simp] theorem t_newL : eNewL f1 mu ρ = (match f1 mu ρ with
  | .ok (.lst ds) => (.ok (.hdl mu.length), mu ++ [.lst ds])
  | .ok _ => (.error .stuck, mu)
  | .error e => (.error e, mu)) := rfl
@[simp] theorem t_bin {o : D → D → Option D} : eBinT o F f2 mu ρ = (match F mu ρ with
  | (.ok d, mu') => ((f2 mu' ρ).bind fun b => opt (o d b), mu')
  | (.error e, mu') => (.error e, mu')) := rfl
@[simp] theorem t_bV : bVT F mu ρ = (match F mu ρ with | (.ok (.bl k), mu') => (.ok k, mu') | (.ok _, mu') => (.error .stuck, mu') | (.error e, mu') => (.error e, mu')) := rfl
@[simp] theorem t_not : bNotT c mu ρ = (match c mu ρ with | (.ok k, mu') => (.ok (!k), mu') | (.error e, mu') => (.error e, mu')) := rfl
@[simp] theorem t_and : bAndT c c' mu ρ = (match c mu ρ with | (.ok true, mu') => c' mu' ρ | (.ok false, mu') => (.ok false, mu') | (.error e, mu') => (.error e, mu')) := rfl
@[simp] theorem t_or : bOrT c c' mu ρ = (match c mu ρ with | (.ok true, mu') => (.ok true, mu') | (.ok false, mu') => c' mu' ρ | (.error e, mu') => (.error e, mu')) := rfl
@[simp] theorem t_fn : eFnT m a mu ρ = (match a mu ρ with | .ok ds => m ds mu | .error e => (.error e, mu)) := rfl
@[simp] theorem t_mt : eMtT cn x m fo a mu ρ = (match fo mu ρ with
  | .error e => (.error e, mu)
  | .ok d => if canM mu cn x d then (match a mu ρ with
    | .ok ds => m (d :: ds) mu
    | .error e => (.error e, mu)) else (.error .stuck, mu)) := rfl
@[simp] theorem t_new : eNewT cn m a mu ρ = (match a mu ρ with
  | .error e => (.error e, mu)
  | .ok ds => match m (.hdl mu.length :: ds) (mu ++ [.obj cn []]) with
    | (.ok .non, mu') => (.ok (.hdl mu.length), mu')
    | (.ok _, mu') => (.error .stuck, mu')
    | (.error e, mu') => (.error e, mu')) := rfl
@[simp] theorem t_runT {n k : Nat} {ds : List D} : runT n k g ds mu = if ds.length = k then outT (g mu (startS n ds)) else (.error .stuck, mu) := rfl
@[simp] theorem outT_nx : outT (.nx ρ, mu) = (.ok .non, mu) := rfl
@[simp] theorem outT_rt : outT (.rt (.sh d), mu) = (.ok d, mu) := rfl
@[simp] theorem outT_er {e : Er} : outT (.er e ρ, mu) = (.error e, mu) := rfl
@[simp] theorem t_frz : sFrzT i g mu ρ = (match ρ[i]? with | some (some (.ow d)) => g mu (ρ.set i (some (.sh d))) | _ => g mu ρ) := rfl
end
@[simp] theorem p_lstD (xs : List D) : lstD (.lst xs) = some xs := rfl
@[simp] theorem p_lstDf (xs : List D) : lstD (.fls xs) = some xs := rfl
theorem lookup_hit {f : Str} {v : D} {r : List (Str × D)} : List.lookup f ((f, v) :: r) = some v := by simp [List.lookup_cons]
theorem lookup_miss {f g : Str} {v : D} {r : List (Str × D)} (h : (f == g) = false) : List.lookup f ((g, v) :: r) = List.lookup f r := by rw [List.lookup_cons, h]
theorem objOf_h {mu : Tbl} {cn : Str} {n : Nat} {fs : List (Str × D)} (h : mu[n]? = some (.obj cn fs)) : objOf mu cn (.hdl n) = some fs := by
  show (match mu[n]? with | some (.obj c fs) => if c = cn then some fs else none | _ => none) = _
  rw [h]
  simp
theorem lstOf_h {mu : Tbl} {n : Nat} {ds : List D} (h : mu[n]? = some (.lst ds)) : lstOf mu (.hdl n) = some ds := by
  show (match mu[n]? with | some (.lst ds) => some ds | _ => none) = _
  rw [h]
end DL

namespace DL
open PySem PySem.Spec PyProof.Rows L2

/-! ### the mirrors' words, told: exceptions -/
section
variable {ρ : Sto} {mu : Tbl} {f : Sto → M D} {F G : TF1} {Gs : TFs} {g h : TS1} {i : Nat} {c : EC} {cs : List EC} {p : EC → Bool}
@[simp] theorem a_raiseAt : sRaiseAt c f ρ = (match f ρ with | .error e => .er e ρ | .ok (.int i) => .er (.exc c (some i)) ρ | .ok _ => .er .stuck ρ) := rfl
@[simp] theorem a_xis : eXis i cs p ρ = (match ρ[i]? with | some (some (.ex c _)) => if cs.contains c then .ok (.bl (p c)) else .error .stuck | _ => .error .stuck) := rfl
@[simp] theorem a_xat : eXat i cs ρ = (match ρ[i]? with | some (some (.ex c (some n))) => if cs.contains c then .ok (.int n) else .error .stuck | _ => .error .stuck) := rfl
@[simp] theorem t_try : sTryT i cs g h mu ρ = (match g mu ρ with
  | (.er (.exc c o) ρ1, mu1) => if noEx ρ1 && cs.contains c then clrT i (.er .stuck ρ1, mu1) (h mu1 (ρ1.set i (some (.ex c o)))) else (.er .stuck ρ1, mu1)
  | r => r) := rfl
@[simp] theorem t_clr {b : Res × Tbl} : clrT i b (.nx ρ, mu) = if noEx (ρ.set i none) then (.nx (ρ.set i none), mu) else b := rfl
@[simp] theorem t_clr_rt {b : Res × Tbl} {s : Sl} : clrT i b (.rt s, mu) = (.rt s, mu) := rfl
@[simp] theorem t_unp {b : D → Sto → Option Sto} : sUnpT F b mu ρ = (match F mu ρ with
  | (.ok d, mu') => (match b d ρ with | some ρ' => (.nx ρ', mu') | none => (.er .stuck ρ, mu'))
  | (.error e, mu') => (.er e ρ, mu')) := by
  show sOnT F _ mu ρ = _
  unfold sOnT
  cases F mu ρ with
  | mk r mu' =>
    cases r with
    | error e => rfl
    | ok d =>
      show (match b d ρ with | some ρ' => (Res.nx ρ', mu') | none => (Res.er .stuck ρ, mu')) = (match b d ρ with | some ρ' => (Res.nx ρ', mu') | none => (Res.er .stuck ρ, mu'))
      cases b d ρ <;> rfl
@[simp] theorem t_andV : eAndT F G mu ρ = (match F mu ρ with
  | (.ok (.bl true), mu') => G mu' ρ
  | (.ok (.bl false), mu') => (.ok (.bl false), mu')
  | (.ok _, mu') => (.error .stuck, mu')
  | (.error e, mu') => (.error e, mu')) := rfl
@[simp] theorem t_aNil : aNilT mu ρ = (.ok [], mu) := rfl
@[simp] theorem t_aCons : aConsT F Gs mu ρ = (match F mu ρ with
  | (.error e, mu') => (.error e, mu')
  | (.ok d, mu') => (match Gs mu' ρ with
    | (.error e, mu'') => (.error e, mu'')
    | (.ok ds, mu'') => (.ok (d :: ds), mu''))) := rfl
@[simp] theorem t_tupV : eTupT Gs mu ρ = (match Gs mu ρ with
  | (.error e, mu') => (.error e, mu')
  | (.ok ds, mu') => if lim ds.length then (.ok (.tup ds), mu') else (.error .stuck, mu')) := rfl
@[simp] theorem nx_nil : noEx [] = true := rfl
@[simp] theorem nx_none {r : Sto} : noEx (none :: r) = noEx r := rfl
@[simp] theorem nx_sh {r : Sto} {d : D} : noEx (some (.sh d) :: r) = noEx r := rfl
@[simp] theorem nx_ow {r : Sto} {d : D} : noEx (some (.ow d) :: r) = noEx r := rfl
end
end DL

namespace DL.Fr

/-! ### fractions in lowest terms -/
def low (n d : Int) : Int × Int := (n / (Int.gcd n d : Int), d / (Int.gcd n d : Int))
theorem gcd_pos {n d : Int} (h : 0 < d) : 0 < Int.gcd n d := Int.gcd_pos_of_ne_zero_right n (by omega)
theorem low_scale {n d g : Int} (h : 0 < d) (hg : 0 < g) : low (n * g) (d * g) = low n d := by
  unfold low
  have e : (Int.gcd (n * g) (d * g) : Int) = (Int.gcd n d : Int) * g := by
    rw [Int.gcd_mul_right]
    have : (g.natAbs : Int) = g := by omega
    push_cast
    rw [show ((g.natAbs : Nat) : Int) = g by omega]
  have p := gcd_pos (n := n) h
  rw [e, Int.mul_ediv_mul_of_pos_left _ _ hg, Int.mul_ediv_mul_of_pos_left _ _ hg]
theorem low_den {n d : Int} (h : 0 < d) : 0 < (low n d).2 ∧ (low n d).2 ≤ d := by
  have p := gcd_pos (n := n) h
  have dv : (Int.gcd n d : Int) ∣ d := Int.gcd_dvd_right ..
  obtain ⟨k, hk⟩ := dv
  have hp : (0 : Int) < (Int.gcd n d : Int) := by omega
  show 0 < d / (Int.gcd n d : Int) ∧ d / (Int.gcd n d : Int) ≤ d
  generalize (Int.gcd n d : Int) = g at *
  subst hk
  rw [Int.mul_ediv_cancel_left _ (by omega)]
  have k0 : 0 < k := Int.pos_of_mul_pos_right h (by omega)
  refine ⟨k0, ?_⟩
  have := Int.mul_le_mul_of_nonneg_right (show (1 : Int) ≤ g by omega) (show 0 ≤ k by omega)
  omega
theorem low_num {n d : Int} (h : 0 < d) : (low n d).1.natAbs ≤ n.natAbs := by
  show (n / (Int.gcd n d : Int)).natAbs ≤ n.natAbs
  have dv : (Int.gcd n d : Int) ∣ n := Int.gcd_dvd_left ..
  have p := gcd_pos (n := n) h
  obtain ⟨k, hk⟩ := dv
  have hp : (0 : Int) < (Int.gcd n d : Int) := by omega
  generalize (Int.gcd n d : Int) = g at *
  subst hk
  rw [Int.mul_ediv_cancel_left _ (by omega), Int.natAbs_mul]
  have : 1 ≤ g.natAbs := by omega
  exact Nat.le_mul_of_pos_left _ (by omega)
theorem low_cop {n d : Int} (h : 0 < d) : Int.gcd (low n d).1 (low n d).2 = 1 := Int.gcd_ediv_gcd_ediv_gcd (gcd_pos h)
theorem low_id {n d : Int} (h : Int.gcd n d = 1) : low n d = (n, d) := by
  unfold low
  rw [h]
  simp
/-- the sum with a share -/
theorem low_plus {a b w W : Int} (hb : 0 < b) (hW : 0 < W) : low (a * (low w W).2 + (low w W).1 * b) (b * (low w W).2) = low (a * W + w * b) (b * W) := by
  have hg : (0 : Int) < (Int.gcd w W : Int) := by have := gcd_pos (n := w) hW; omega
  have e1 : w = (low w W).1 * (Int.gcd w W : Int) := by
    show w = w / _ * _
    rw [Int.ediv_mul_cancel (Int.gcd_dvd_left ..)]
  have e2 : W = (low w W).2 * (Int.gcd w W : Int) := by
    show W = W / _ * _
    rw [Int.ediv_mul_cancel (Int.gcd_dvd_right ..)]
  have h2 := (low_den (n := w) hW).1
  generalize (low w W).1 = w' at *
  generalize (low w W).2 = W' at *
  generalize (Int.gcd w W : Int) = g at *
  subst e1 e2
  rw [← low_scale (n := a * W' + w' * b) (d := b * W') (g := g) (Int.mul_pos hb h2) hg]
  congr 1
  · rw [Int.add_mul, Int.mul_assoc, Int.mul_right_comm w' b g]
  · rw [Int.mul_assoc]
theorem cop_sub {a b : Int} (h : Int.gcd a b = 1) : Int.gcd (a - b) b = 1 := by
  rw [← h]
  exact Int.gcd_sub_right_left_of_dvd _ (Int.dvd_refl b)
/-! ### a step by credits -/
abbrev P := Int × Int
def grow (W : Int) (ps : List P) (ws : List Int) : List P := (ps.zip ws).map fun x => low (x.1.1 * W + x.2 * x.1.2) (x.1.2 * W)
def lt (p q : P) : Bool := decide (p.1 * q.2 < q.1 * p.2)
def pick (gs : List P) (c j : Nat) : Nat := if lt (gs.getD c (0, 1)) (gs.getD j (0, 1)) then j else c
def best (gs : List P) : Nat := (List.range gs.length).foldl (pick gs) 0
def pay (gs : List P) (i : Nat) : List P := gs.set i ((gs.getD i (0, 1)).1 - (gs.getD i (0, 1)).2, (gs.getD i (0, 1)).2)
structure Small (t : Nat) (p : P) : Prop where
  pos : 0 < p.2
  den : p.2.natAbs < 2 ^ (16 * t)
  num : p.1.natAbs < 2 ^ (16 * t)
structure Mid (t : Nat) (p : P) : Prop where
  pos : 0 < p.2
  den : p.2.natAbs < 2 ^ (16 * t) * 8000
  num : p.1.natAbs < 2 ^ (16 * t) * 8000
  cop : Int.gcd p.1 p.2 = 1
theorem mid_low {t : Nat} {p : P} {w W : Int} (h : Small t p) (h0 : 0 ≤ w) (h1 : w ≤ 1000) (h2 : 0 < W) (h3 : W ≤ 6000) : Mid t (low (p.1 * W + w * p.2) (p.2 * W)) := by
  have pd : 0 < p.2 * W := Int.mul_pos h.pos h2
  obtain ⟨d1, d2⟩ := low_den (n := p.1 * W + w * p.2) pd
  have n1 := low_num (n := p.1 * W + w * p.2) pd
  have hW : W.natAbs ≤ 6000 := by omega
  have hw : w.natAbs ≤ 1000 := by omega
  have e1 : (p.2 * W).natAbs ≤ p.2.natAbs * 6000 := by rw [Int.natAbs_mul]; exact Nat.mul_le_mul_left _ hW
  have e2 : (p.1 * W).natAbs ≤ p.1.natAbs * 6000 := by rw [Int.natAbs_mul]; exact Nat.mul_le_mul_left _ hW
  have e3 : (w * p.2).natAbs ≤ 1000 * p.2.natAbs := by rw [Int.natAbs_mul]; exact Nat.mul_le_mul_right _ hw
  have e4 := Int.natAbs_add_le (p.1 * W) (w * p.2)
  have b1 := h.den
  have b2 := h.num
  generalize p.2 * W = D0 at *
  generalize p.1 * W = D1 at *
  generalize w * p.2 = D2 at *
  exact ⟨d1, by omega, by omega, low_cop pd⟩
theorem small_of_mid {t : Nat} {p : P} (h : Mid t p) : Small (t + 1) p := by
  have b1 := h.den
  have b2 := h.num
  have e : 2 ^ (16 * (t + 1)) = 2 ^ (16 * t) * 65536 := by rw [Nat.mul_add, Nat.pow_add]
  exact ⟨h.pos, by omega, by omega⟩
theorem small_pay {t : Nat} {p : P} (h : Mid t p) : Small (t + 1) (p.1 - p.2, p.2) := by
  have b1 := h.den
  have b2 := h.num
  have e : 2 ^ (16 * (t + 1)) = 2 ^ (16 * t) * 65536 := by rw [Nat.mul_add, Nat.pow_add]
  have e4 : (p.1 - p.2).natAbs ≤ p.1.natAbs + p.2.natAbs := by omega
  exact ⟨h.pos, by show p.2.natAbs < _; omega, by show (p.1 - p.2).natAbs < _; omega⟩
theorem small_mono {s t : Nat} {p : P} (h : Small s p) (q : s ≤ t) : Small t p := by
  have e : 2 ^ (16 * s) ≤ 2 ^ (16 * t) := Nat.pow_le_pow_right (by omega) (by omega)
  exact ⟨h.pos, Nat.lt_of_lt_of_le h.den e, Nat.lt_of_lt_of_le h.num e⟩
theorem small_big {t : Nat} {p : P} (h : Small t p) (ht : t ≤ 40) : p.1.natAbs < 2 ^ 1000 ∧ p.2.natAbs < 2 ^ 1000 := by
  have e : 2 ^ (16 * t) ≤ 2 ^ 1000 := Nat.pow_le_pow_right (by omega) (by omega)
  exact ⟨Nat.lt_of_lt_of_le h.num e, Nat.lt_of_lt_of_le h.den e⟩
theorem pick_lt {gs : List P} {c j n : Nat} (h1 : c < n) (h2 : j < n) : pick gs c j < n := by
  unfold pick
  split <;> assumption
theorem fold_lt {gs : List P} {n : Nat} : ∀ (xs : List Nat) (c : Nat), c < n → (∀ x ∈ xs, x < n) → xs.foldl (pick gs) c < n
  | [], c, h, _ => h
  | x :: xs, c, h, hx => fold_lt xs _ (pick_lt h (hx x (List.mem_cons_self ..))) fun y hy => hx y (List.mem_cons_of_mem _ hy)
theorem best_lt {gs : List P} (h : 0 < gs.length) : best gs < gs.length := fold_lt _ _ h fun x hx => List.mem_range.mp hx
/-- the first one need not be asked -/
theorem best_from1 {gs : List P} (h : 0 < gs.length) : best gs = (List.range' 1 (gs.length - 1)).foldl (pick gs) 0 := by
  unfold best
  obtain ⟨n, e⟩ : ∃ n, gs.length = n + 1 := ⟨gs.length - 1, by omega⟩
  rw [e, List.range_eq_range', List.range'_succ, List.foldl_cons, Nat.add_sub_cancel]
  congr 1
  unfold pick lt
  simp
end DL.Fr

namespace DL
open PySem PySem.Spec PyProof.Rows L2
abbrev top (i : Nat) : Stmt := PySem.Challenge.pw_dueturns_k32_deeds_taken_back.main.body.getD i (.Pass ⟨0, 0, 0, 0⟩)
abbrev s_NoPlan_init : Stmt := inClass (top 3) 0
abbrev s_is_whole : Stmt := top 9
abbrev s_common : Stmt := top 10
abbrev s_made : Stmt := top 11
abbrev s_plus : Stmt := top 12
abbrev s_minus : Stmt := top 13
abbrev s_less : Stmt := top 14
abbrev s_are_weights : Stmt := top 18
abbrev s_Credits_init : Stmt := inClass (top 20) 0
abbrev s_Credits_weights : Stmt := inClass (top 20) 1
abbrev s_Credits_owing : Stmt := inClass (top 20) 2
abbrev s_Credits_told : Stmt := inClass (top 20) 3
abbrev s_Credits_step : Stmt := inClass (top 20) 4
abbrev s_Credits_change : Stmt := inClass (top 20) 5
abbrev s_Credits_back : Stmt := inClass (top 20) 6
abbrev s_L_cell_at : Stmt := top 22
abbrev s_L_draw : Stmt := top 23
abbrev s_L_weight : Stmt := top 24
abbrev s_L_weights : Stmt := top 25
abbrev s_L_seen : Stmt := top 26
abbrev s_L_said : Stmt := top 27
abbrev s_L_back : Stmt := top 28
abbrev s_L_none_made : Stmt := top 29
abbrev s_law : Stmt := top 30
structure Tx (K : PySem.W.Frag) (mg : Str → Option Value) : Prop where
  b_ValueError : mg "ValueError" = none
  b_abs : mg "abs" = none
  b_bool : mg "bool" = none
  b_int : mg "int" = none
  b_isinstance : mg "isinstance" = none
  b_len : mg "len" = none
  b_list : mg "list" = none
  b_range : mg "range" = none
  b_sum : mg "sum" = none
  b_tuple : mg "tuple" = none
  c_MOST_CLAIMANTS : ∃ t, mg "MOST_CLAIMANTS" = some (.int 6 t)
  c_MOST_WEIGHT : ∃ t, mg "MOST_WEIGHT" = some (.int 1000 t)
  c_NOUGHT : TupT K mg "NOUGHT" [0, 1]
  due : DueT K mg
  duex : DueX K mg [.NoPlan, .NoStep]
  k_Credits : ClsT K mg "Credits" ["now", "owed", "row", "deeds"]
  x_NoStep : ExcT K mg .NoStep
  xa : XaT K mg [.NoPlan]
  xc : XcT K mg [.NoPlan, .NoStep]
  xp_NoPlan : XpT K mg [.NoPlan, .NoStep] .NoPlan
  xp_NoRow : XpT K mg [.NoPlan, .NoStep] .NoRow
  xp_NoStep : XpT K mg [.NoPlan, .NoStep] .NoStep
  xp_NoTurns : XpT K mg [.NoPlan, .NoStep] .NoTurns
  xv : XvT K mg [.NoPlan, .NoStep]
section
variable {P : Program} {w : World} {K : PySem.W.Frag} {mg : Str → Option Value} {base : Heap}
abbrev N_NoPlan_init : List Str := ["self", "at"]
theorem sc_NoPlan_init : FnScope N_NoPlan_init ["self", "at"] (defScope s_NoPlan_init) := ⟨rfl, rfl, rfl, by decide +kernel, rfl, by decide +kernel, by decide +kernel⟩
theorem ok_NoPlan_init (T : Tx K mg) (F : OE1 K mg .NoPlan "NoPlan.__init__" s_NoPlan_init ["self", "at"]) : AtT P w K mg base 1 .NoPlan :=
  at_mk (k := 0) (m := "no plan") F sc_NoPlan_init rfl rfl fun f cdv A outer s H E hr => pss_cons (ps_expr (pe_dinit T.due (pa_cons (pv 0) (pa_cons pe_str pa_nil)))) (pss_one (ps_ost (pv 0) (pv 1)))

abbrev N_is_whole : List Str := ["thing"]
abbrev g_is_whole : Sto → Res := (sRet (eAnd (eIsi "int" (eRd 0)) (eNot (eIsi "bool" (eRd 0)))))
def m_is_whole : List D → M D := runD 1 1 g_is_whole
theorem sc_is_whole : FnScope N_is_whole ["thing"] (defScope s_is_whole) := ⟨rfl, rfl, rfl, by decide +kernel, rfl, by decide +kernel, by decide +kernel⟩
theorem ok_is_whole (T : Tx K mg) (F : FF K mg "is_whole" s_is_whole ["thing"])  : FnD P w K mg base 1 "is_whole" 1 m_is_whole :=
  ffd F sc_is_whole rfl rfl fun al mu ex f cdv A outer s H E hr => by have nd := sc_is_whole.nd; have po := passes_of (X := cxOf (L2.CX P w) P w K mg base N_is_whole "is_whole" (defScope s_is_whole) f cdv A outer s H E) rfl; have tk := takes_of (X := cxOf (L2.CX P w) P w K mg base N_is_whole "is_whole" (defScope s_is_whole) f cdv A outer s H E) rfl rfl rfl rfl; exact
    (ss_one (ds_ret (de_and (de_isi (T := "int") (by decide) T.b_isinstance T.b_int (by decide +kernel) (dr_var 0)) (de_one (de_not (de_isi (T := "bool") (by decide) T.b_isinstance T.b_bool (by decide +kernel) (dr_var 0)))))))

abbrev N_common : List Str := ["one", "other"]
def mu_common_0 : Sto → Nat := fun ρ => muOne ρ 1
abbrev g_common : Sto → Res := (sSeq (sSet 0 (eCall gAbs (aCons (eRd 0) aNil)))
    (sSeq (sSet 1 (eCall gAbs (aCons (eRd 1) aNil)))
    (sSeq (sWhile mu_common_0 (bV (eBin D.gt (eRd 1) (eC (.int 0))))
    (sPar 0 1 (aCons (eVar 1) (aCons (eBin D.mod (eRd 0) (eRd 1)) aNil))))
    (sRetO 0))))
def m_common : List D → M D := runD 2 2 g_common
theorem sc_common : FnScope N_common ["one", "other"] (defScope s_common) := ⟨rfl, rfl, rfl, by decide +kernel, rfl, by decide +kernel, by decide +kernel⟩
theorem ok_common (T : Tx K mg) (F : FF K mg "common" s_common ["one", "other"])  : FnD P w K mg base 1 "common" 2 m_common :=
  ffd F sc_common rfl rfl fun al mu ex f cdv A outer s H E hr => by have nd := sc_common.nd; have po := passes_of (X := cxOf (L2.CX P w) P w K mg base N_common "common" (defScope s_common) f cdv A outer s H E) rfl; have tk := takes_of (X := cxOf (L2.CX P w) P w K mg base N_common "common" (defScope s_common) f cdv A outer s H E) rfl rfl rfl rfl; exact
    (ss_cons (ds_set 0 nd (de_callB ci_abs call_abs T.b_abs (ar_cons (dr_var 0) ar_nil)))
    (ss_cons (ds_set 1 nd (de_callB ci_abs call_abs T.b_abs (ar_cons (dr_var 1) ar_nil)))
    (ss_cons (ds_while mu_common_0 po (db_cmp opi_cmp op_gt (dr_var 1) (rd de_int))
    (ss_one (ds_par 0 1 nd (ad_cons (de_var 1) (ad_cons (de_op opi_mod op_mod (dr_var 0) (dr_var 1)) ad_nil)))))
    (ss_one (ds_retO 0)))))

abbrev N_made : List Str := ["top", "bottom", "share"]
abbrev g_made : Sto → Res := (sSeq (sIf (bV (eBin D.eq (eRd 1) (eC (.int 0))))
    sWall
    sNil)
    (sSeq (sSet 2 (eFn m_common (aCons (eVar 0) (aCons (eVar 1) aNil))))
    (sSeq (sIf (bV (eBin D.lt (eRd 1) (eC (.int 0))))
    (sSet 2 (eUn D.neg (eRd 2)))
    sNil)
    (sRet (eTup (aCons (eBin D.fdiv (eRd 0) (eRd 2)) (aCons (eBin D.fdiv (eRd 1) (eRd 2)) aNil)))))))
def m_made : List D → M D := runD 3 2 g_made
theorem sc_made : FnScope N_made ["top", "bottom"] (defScope s_made) := ⟨rfl, rfl, rfl, by decide +kernel, rfl, by decide +kernel, by decide +kernel⟩
theorem ok_made (T : Tx K mg) (F : FF K mg "made" s_made ["top", "bottom"]) (h_common : FnD P w K mg base 1 "common" 2 m_common) : FnD P w K mg base 2 "made" 2 m_made :=
  ffd F sc_made rfl rfl fun al mu ex f cdv A outer s H E hr => by have nd := sc_made.nd; have po := passes_of (X := cxOf (L2.CX P w) P w K mg base N_made "made" (defScope s_made) f cdv A outer s H E) rfl; have tk := takes_of (X := cxOf (L2.CX P w) P w K mg base N_made "made" (defScope s_made) f cdv A outer s H E) rfl rfl rfl rfl; exact
    (ss_cons (ds_if (db_cmp opi_eq (op_eqD hr.units) (dr_var 1) (rd de_int))
    (ss_one ds_wall)
    ss_nil)
    (ss_cons (ds_set 2 nd (de_fn (m := fun _ => m_common) h_common (hr.mono (by decide)) tk (ad_cons (de_var 0) (ad_cons (de_var 1) ad_nil))))
    (ss_cons (ds_if (db_cmp opi_cmp op_lt (dr_var 1) (rd de_int))
    (ss_one (ds_set 2 nd (de_neg (dr_var 2))))
    ss_nil)
    (ss_one (ds_ret (de_tup (ad_cons (de_op opi_fdiv op_fdivW (dr_var 0) (dr_var 2)) (ad_cons (de_op opi_fdiv op_fdivW (dr_var 1) (dr_var 2)) ad_nil))))))))

abbrev N_plus : List Str := ["one", "other"]
abbrev g_plus : Sto → Res := (sRet (eFn m_made (aCons (eBin D.add (eBin D.mul (eBin D.item (eRd 0) (eC (.int 0))) (eBin D.item (eRd 1) (eC (.int 1)))) (eBin D.mul (eBin D.item (eRd 1) (eC (.int 0))) (eBin D.item (eRd 0) (eC (.int 1))))) (aCons (eBin D.mul (eBin D.item (eRd 0) (eC (.int 1))) (eBin D.item (eRd 1) (eC (.int 1)))) aNil))))
def m_plus : List D → M D := runD 2 2 g_plus
theorem sc_plus : FnScope N_plus ["one", "other"] (defScope s_plus) := ⟨rfl, rfl, rfl, by decide +kernel, rfl, by decide +kernel, by decide +kernel⟩
theorem ok_plus (T : Tx K mg) (F : FF K mg "plus" s_plus ["one", "other"]) (h_made : FnD P w K mg base 2 "made" 2 m_made) : FnD P w K mg base 3 "plus" 2 m_plus :=
  ffd F sc_plus rfl rfl fun al mu ex f cdv A outer s H E hr => by have nd := sc_plus.nd; have po := passes_of (X := cxOf (L2.CX P w) P w K mg base N_plus "plus" (defScope s_plus) f cdv A outer s H E) rfl; have tk := takes_of (X := cxOf (L2.CX P w) P w K mg base N_plus "plus" (defScope s_plus) f cdv A outer s H E) rfl rfl rfl rfl; exact
    (ss_one (ds_ret (de_fn (m := fun _ => m_made) h_made (hr.mono (by decide)) tk (ad_cons (de_op opi_add opr_add (rd (de_op opi_mul opr_mul (rd (de_ix (dr_var 0) (rd de_int))) (rd (de_ix (dr_var 1) (rd de_int))))) (rd (de_op opi_mul opr_mul (rd (de_ix (dr_var 1) (rd de_int))) (rd (de_ix (dr_var 0) (rd de_int)))))) (ad_cons (de_op opi_mul opr_mul (rd (de_ix (dr_var 0) (rd de_int))) (rd (de_ix (dr_var 1) (rd de_int)))) ad_nil)))))

abbrev N_minus : List Str := ["one", "other"]
abbrev g_minus : Sto → Res := (sRet (eFn m_made (aCons (eBin D.sub (eBin D.mul (eBin D.item (eRd 0) (eC (.int 0))) (eBin D.item (eRd 1) (eC (.int 1)))) (eBin D.mul (eBin D.item (eRd 1) (eC (.int 0))) (eBin D.item (eRd 0) (eC (.int 1))))) (aCons (eBin D.mul (eBin D.item (eRd 0) (eC (.int 1))) (eBin D.item (eRd 1) (eC (.int 1)))) aNil))))
def m_minus : List D → M D := runD 2 2 g_minus
theorem sc_minus : FnScope N_minus ["one", "other"] (defScope s_minus) := ⟨rfl, rfl, rfl, by decide +kernel, rfl, by decide +kernel, by decide +kernel⟩
theorem ok_minus (T : Tx K mg) (F : FF K mg "minus" s_minus ["one", "other"]) (h_made : FnD P w K mg base 2 "made" 2 m_made) : FnD P w K mg base 3 "minus" 2 m_minus :=
  ffd F sc_minus rfl rfl fun al mu ex f cdv A outer s H E hr => by have nd := sc_minus.nd; have po := passes_of (X := cxOf (L2.CX P w) P w K mg base N_minus "minus" (defScope s_minus) f cdv A outer s H E) rfl; have tk := takes_of (X := cxOf (L2.CX P w) P w K mg base N_minus "minus" (defScope s_minus) f cdv A outer s H E) rfl rfl rfl rfl; exact
    (ss_one (ds_ret (de_fn (m := fun _ => m_made) h_made (hr.mono (by decide)) tk (ad_cons (de_op opi_sub op_sub (rd (de_op opi_mul opr_mul (rd (de_ix (dr_var 0) (rd de_int))) (rd (de_ix (dr_var 1) (rd de_int))))) (rd (de_op opi_mul opr_mul (rd (de_ix (dr_var 1) (rd de_int))) (rd (de_ix (dr_var 0) (rd de_int)))))) (ad_cons (de_op opi_mul opr_mul (rd (de_ix (dr_var 0) (rd de_int))) (rd (de_ix (dr_var 1) (rd de_int)))) ad_nil)))))

abbrev N_less : List Str := ["one", "other"]
abbrev g_less : Sto → Res := (sRet (eBin D.lt (eBin D.mul (eBin D.item (eRd 0) (eC (.int 0))) (eBin D.item (eRd 1) (eC (.int 1)))) (eBin D.mul (eBin D.item (eRd 1) (eC (.int 0))) (eBin D.item (eRd 0) (eC (.int 1))))))
def m_less : List D → M D := runD 2 2 g_less
theorem sc_less : FnScope N_less ["one", "other"] (defScope s_less) := ⟨rfl, rfl, rfl, by decide +kernel, rfl, by decide +kernel, by decide +kernel⟩
theorem ok_less (T : Tx K mg) (F : FF K mg "less" s_less ["one", "other"])  : FnD P w K mg base 1 "less" 2 m_less :=
  ffd F sc_less rfl rfl fun al mu ex f cdv A outer s H E hr => by have nd := sc_less.nd; have po := passes_of (X := cxOf (L2.CX P w) P w K mg base N_less "less" (defScope s_less) f cdv A outer s H E) rfl; have tk := takes_of (X := cxOf (L2.CX P w) P w K mg base N_less "less" (defScope s_less) f cdv A outer s H E) rfl rfl rfl rfl; exact
    (ss_one (ds_ret (de_cmp opi_cmp op_lt (rd (de_op opi_mul opr_mul (rd (de_ix (dr_var 0) (rd de_int))) (rd (de_ix (dr_var 1) (rd de_int))))) (rd (de_op opi_mul opr_mul (rd (de_ix (dr_var 1) (rd de_int))) (rd (de_ix (dr_var 0) (rd de_int))))))))

abbrev N_are_weights : List Str := ["thing", "weight"]
abbrev g_are_weights : Sto → Res := (sSeq (sIf (bOr (bNot (bV (eIsi "list" (eRd 0)))) (bNot (bV (eChain D.le D.le (eC (.int 1)) (eCall gLen (aCons (eRd 0) aNil)) (eC (.int 6))))))
    (sRet (eC (.bl false)))
    sNil)
    (sSeq (sFor (iL (eVar 0)) (gNm 1)
    (sIf (bOr (bNot (bV (eFn m_is_whole (aCons (eVar 1) aNil)))) (bNot (bV (eChain D.le D.le (eC (.int 0)) (eRd 1) (eC (.int 1000))))))
    (sRet (eC (.bl false)))
    sNil))
    (sRet (eBin D.gt (eCall gSumA (aCons (eRd 0) aNil)) (eC (.int 0))))))
def m_are_weights : List D → M D := runD 2 1 g_are_weights
theorem sc_are_weights : FnScope N_are_weights ["thing"] (defScope s_are_weights) := ⟨rfl, rfl, rfl, by decide +kernel, rfl, by decide +kernel, by decide +kernel⟩
theorem ok_are_weights (T : Tx K mg) (F : FF K mg "are_weights" s_are_weights ["thing"]) (h_is_whole : FnD P w K mg base 1 "is_whole" 1 m_is_whole) : FnD P w K mg base 2 "are_weights" 1 m_are_weights :=
  ffd F sc_are_weights rfl rfl fun al mu ex f cdv A outer s H E hr => by have nd := sc_are_weights.nd; have po := passes_of (X := cxOf (L2.CX P w) P w K mg base N_are_weights "are_weights" (defScope s_are_weights) f cdv A outer s H E) rfl; have tk := takes_of (X := cxOf (L2.CX P w) P w K mg base N_are_weights "are_weights" (defScope s_are_weights) f cdv A outer s H E) rfl rfl rfl rfl; exact
    (ss_cons (ds_if ((wb_or (db_not (db_val (de_isi (T := "list") (by decide) T.b_isinstance T.b_list (by decide +kernel) (dr_var 0)))) (wb_or1 (db_not (db_chain opi_cmp opi_cmp op_le op_le (rd de_int) (rd (de_callB ci_len call_len T.b_len (ar_cons (dr_var 0) ar_nil))) (rd (de_globE (by rfl) T.c_MOST_CLAIMANTS))))))).pt
    (ss_one (ds_ret de_bl))
    ss_nil)
    (ss_cons (ds_for po rfl (di_list (de_var 0)) (dg_nm 1 nd)
    (ss_one (ds_if ((wb_or (db_not (db_val (de_fn (m := fun _ => m_is_whole) h_is_whole (hr.mono (by decide)) tk (ad_cons (de_var 1) ad_nil)))) (wb_or1 (db_not (db_chain opi_cmp opi_cmp op_le op_le (rd de_int) (dr_var 1) (rd (de_globE (by rfl) T.c_MOST_WEIGHT))))))).pt
    (ss_one (ds_ret de_bl))
    ss_nil)))
    (ss_one (ds_ret (de_cmp opi_cmp op_gt (rd (de_callB ci_sumA (cr_sumT rfl) T.b_sum (ar_cons (dr_var 0) ar_nil))) (rd de_int))))))

abbrev N_Credits_init : List Str := ["self", "weights"]
abbrev g_Credits_init : TS1 := (sSeqT (sP (fun mu => (sIf (bNot (bV (eFn m_are_weights (aCons (eVar 1) aNil))))
    (sRaiseAt .NoPlan (eC (.int 0)))
    sNil)))
    (sSeqT (sFldT "Credits" "now" (fun mu => (eVar 0)) (eP (fun mu => (eCall gTuple (aCons (eRd 1) aNil)))))
    (sSeqT (sFldT "Credits" "owed" (fun mu => (eVar 0)) (eP (fun mu => (eCall gTuple (aCons (eBin D.mul (eLst (aCons (eC (tupI [0, 1])) aNil)) (eCall gLen (aCons (eRd 1) aNil))) aNil)))))
    (sSeqT (sFldT "Credits" "row" (fun mu => (eVar 0)) (eNewL (fun mu => (eLst aNil))))
    (sFldT "Credits" "deeds" (fun mu => (eVar 0)) (eNewL (fun mu => (eLst aNil))))))))
def m_Credits_init : MF := runT 2 2 g_Credits_init
theorem sc_Credits_init : FnScope N_Credits_init ["self", "weights"] (defScope s_Credits_init) := ⟨rfl, rfl, rfl, by decide +kernel, rfl, by decide +kernel, by decide +kernel⟩
theorem ok_Credits_init (T : Tx K mg) (F : IF1 K mg "Credits" "Credits.__init__" s_Credits_init ["self", "weights"]) (h_NoPlan_init : AtT P w K mg base 1 .NoPlan) (h_are_weights : FnD P w K mg base 2 "are_weights" 1 m_are_weights) : MkT P w K mg base 3 "Credits" 2 m_Credits_init :=
  mk_t F sc_Credits_init rfl rfl fun ex f cdv A outer s H E hr => by have nd := sc_Credits_init.nd; have po := passes_of (X := cxOf (L2.CX P w) P w K mg base N_Credits_init "Credits.__init__" (defScope s_Credits_init) f cdv A outer s H E) rfl; have tk := takes_of (X := cxOf (L2.CX P w) P w K mg base N_Credits_init "Credits.__init__" (defScope s_Credits_init) f cdv A outer s H E) rfl rfl rfl rfl; exact
    (tt_cons (ts_lift (fun al mu => (ds_if (db_not (db_val (de_fn (m := fun _ => m_are_weights) h_are_weights (hr.mono (by decide)) tk (ad_cons (de_var 1) ad_nil))))
    (ss_one (ds_raiseAt h_NoPlan_init rfl tk (hr.mono (by decide)) de_int))
    ss_nil)))
    (tt_cons (ts_fld T.k_Credits (fun al mu => (de_var 0)) (te_lift (fun al mu => (de_callTy ci_tuple call_tuple_of T.b_tuple (ar_cons (dr_var 1) ar_nil)))))
    (tt_cons (ts_fld T.k_Credits (fun al mu => (de_var 0)) (te_lift (fun al mu => (de_callTy ci_tuple call_tuple_of T.b_tuple (ar_cons (rd (de_op opi_mul opr_mul (rd (fz (df_lst (ad_cons (T.c_NOUGHT.de (by rfl)) ad_nil)))) (rd (de_callB ci_len call_len T.b_len (ar_cons (dr_var 1) ar_nil))))) ar_nil)))))
    (tt_cons (ts_fld T.k_Credits (fun al mu => (de_var 0)) (te_newL (fun al mu => (df_lst ad_nil))))
    (tt_one (ts_fld T.k_Credits (fun al mu => (de_var 0)) (te_newL (fun al mu => (df_lst ad_nil)))))))))

abbrev N_Credits_weights : List Str := ["self"]
abbrev g_Credits_weights : Tbl → Sto → Res := fun mu => (sRetF (eCall gList (aCons (eFld mu "Credits" "now" (eVar 0)) aNil)))
def m_Credits_weights : Tbl → List D → M D := fun mu => runF 1 1 (g_Credits_weights mu)
theorem sc_Credits_weights : FnScope N_Credits_weights ["self"] (defScope s_Credits_weights) := ⟨rfl, rfl, rfl, by decide +kernel, rfl, by decide +kernel, by decide +kernel⟩
theorem ok_Credits_weights (T : Tx K mg) (F : MF1 K mg "Credits" "weights" "Credits.weights" s_Credits_weights ["self"])  : MtF P w K mg base 1 "Credits" "weights" 1 m_Credits_weights :=
  mt_f F sc_Credits_weights rfl rfl fun al mu ex f cdv A outer s H E hr => by have nd := sc_Credits_weights.nd; have po := passes_of (X := cxOf (L2.CX P w) P w K mg base N_Credits_weights "Credits.weights" (defScope s_Credits_weights) f cdv A outer s H E) rfl; have tk := takes_of (X := cxOf (L2.CX P w) P w K mg base N_Credits_weights "Credits.weights" (defScope s_Credits_weights) f cdv A outer s H E) rfl rfl rfl rfl; exact
    (ss_one (ds_retF (df_callTy cf_list call_list_of T.b_list (ar_cons (rd (de_fld T.k_Credits (de_var 0))) ar_nil))))

abbrev N_Credits_owing : List Str := ["self"]
abbrev g_Credits_owing : Tbl → Sto → Res := fun mu => (sRetF (eCall gList (aCons (eFld mu "Credits" "owed" (eVar 0)) aNil)))
def m_Credits_owing : Tbl → List D → M D := fun mu => runF 1 1 (g_Credits_owing mu)
theorem sc_Credits_owing : FnScope N_Credits_owing ["self"] (defScope s_Credits_owing) := ⟨rfl, rfl, rfl, by decide +kernel, rfl, by decide +kernel, by decide +kernel⟩
theorem ok_Credits_owing (T : Tx K mg) (F : MF1 K mg "Credits" "owing" "Credits.owing" s_Credits_owing ["self"])  : MtF P w K mg base 1 "Credits" "owing" 1 m_Credits_owing :=
  mt_f F sc_Credits_owing rfl rfl fun al mu ex f cdv A outer s H E hr => by have nd := sc_Credits_owing.nd; have po := passes_of (X := cxOf (L2.CX P w) P w K mg base N_Credits_owing "Credits.owing" (defScope s_Credits_owing) f cdv A outer s H E) rfl; have tk := takes_of (X := cxOf (L2.CX P w) P w K mg base N_Credits_owing "Credits.owing" (defScope s_Credits_owing) f cdv A outer s H E) rfl rfl rfl rfl; exact
    (ss_one (ds_retF (df_callTy cf_list call_list_of T.b_list (ar_cons (rd (de_fld T.k_Credits (de_var 0))) ar_nil))))

abbrev N_Credits_told : List Str := ["self"]
abbrev g_Credits_told : Tbl → Sto → Res := fun mu => (sRetF (eCall gList (aCons (eCel mu (eFld mu "Credits" "row" (eVar 0))) aNil)))
def m_Credits_told : Tbl → List D → M D := fun mu => runF 1 1 (g_Credits_told mu)
theorem sc_Credits_told : FnScope N_Credits_told ["self"] (defScope s_Credits_told) := ⟨rfl, rfl, rfl, by decide +kernel, rfl, by decide +kernel, by decide +kernel⟩
theorem ok_Credits_told (T : Tx K mg) (F : MF1 K mg "Credits" "told" "Credits.told" s_Credits_told ["self"])  : MtF P w K mg base 1 "Credits" "told" 1 m_Credits_told :=
  mt_f F sc_Credits_told rfl rfl fun al mu ex f cdv A outer s H E hr => by have nd := sc_Credits_told.nd; have po := passes_of (X := cxOf (L2.CX P w) P w K mg base N_Credits_told "Credits.told" (defScope s_Credits_told) f cdv A outer s H E) rfl; have tk := takes_of (X := cxOf (L2.CX P w) P w K mg base N_Credits_told "Credits.told" (defScope s_Credits_told) f cdv A outer s H E) rfl rfl rfl rfl; exact
    (ss_one (ds_retF (df_callTy cf_list call_list_of T.b_list (ar_cons (dr_cel (de_fld T.k_Credits (de_var 0))) ar_nil))))

abbrev N_Credits_step : List Str := ["self", "whole", "grown", "who", "chosen"]
abbrev g_Credits_step : TS1 := (sSeqT (sP (fun mu => (sSet 1 (eCall gSumA (aCons (eFld mu "Credits" "now" (eVar 0)) aNil)))))
    (sSeqT (sP (fun mu => (sSetF 2 (eLc (iR (aCons (eCall gLen (aCons (eFld mu "Credits" "now" (eVar 0)) aNil)) aNil)) (gNm 3) bYes (eFn m_plus (aCons (eBin D.item (eFld mu "Credits" "owed" (eVar 0)) (eRd 3)) (aCons (eFn m_made (aCons (eBin D.item (eFld mu "Credits" "now" (eVar 0)) (eRd 3)) (aCons (eVar 1) aNil))) aNil))) [3]))))
    (sSeqT (sP (fun mu => (sSet 4 (eC (.int 0)))))
    (sSeqT (sP (fun mu => (sFor (iR (aCons (eC (.int 1)) (aCons (eCall gLen (aCons (eRd 2) aNil)) aNil))) (gNm 3)
    (sIf (bV (eFn m_less (aCons (eBin D.item (eRd 2) (eRd 4)) (aCons (eBin D.item (eRd 2) (eRd 3)) aNil))))
    (sSet 4 (eVar 3))
    sNil))))
    (sSeqT (sP (fun mu => (sPut 2 (eVar 4) (eFn m_minus (aCons (eBin D.item (eRd 2) (eRd 4)) (aCons (eTup (aCons (eC (.int 1)) (aCons (eC (.int 1)) aNil))) aNil))))))
    (sSeqT (sAppC (fun mu => (eFld mu "Credits" "deeds" (eVar 0))) (fun mu => (eTup (aCons (eC (.str "step")) (aCons (eFld mu "Credits" "owed" (eVar 0)) aNil)))))
    (sSeqT (sFldT "Credits" "owed" (fun mu => (eVar 0)) (eP (fun mu => (eCall gTuple (aCons (eRd 2) aNil)))))
    (sSeqT (sAppC (fun mu => (eFld mu "Credits" "row" (eVar 0))) (fun mu => (eVar 4)))
    (sP (fun mu => (sRetO 4)))))))))))
def m_Credits_step : MF := runT 5 1 g_Credits_step
theorem sc_Credits_step : FnScope N_Credits_step ["self"] (defScope s_Credits_step) := ⟨rfl, rfl, rfl, by decide +kernel, rfl, by decide +kernel, by decide +kernel⟩
theorem ok_Credits_step (T : Tx K mg) (F : MF1 K mg "Credits" "step" "Credits.step" s_Credits_step ["self"]) (h_made : FnD P w K mg base 2 "made" 2 m_made) (h_plus : FnD P w K mg base 3 "plus" 2 m_plus) (h_minus : FnD P w K mg base 3 "minus" 2 m_minus) (h_less : FnD P w K mg base 1 "less" 2 m_less) : MtT P w K mg base 4 "Credits" "step" 1 m_Credits_step :=
  mt_t F sc_Credits_step rfl rfl fun ex f cdv A outer s H E hr => by have nd := sc_Credits_step.nd; have po := passes_of (X := cxOf (L2.CX P w) P w K mg base N_Credits_step "Credits.step" (defScope s_Credits_step) f cdv A outer s H E) rfl; have tk := takes_of (X := cxOf (L2.CX P w) P w K mg base N_Credits_step "Credits.step" (defScope s_Credits_step) f cdv A outer s H E) rfl rfl rfl rfl; exact
    (tt_cons (ts_lift (fun al mu => (ds_set 1 nd (de_callB ci_sumA (cr_sumT rfl) T.b_sum (ar_cons (rd (de_fld T.k_Credits (de_var 0))) ar_nil)))))
    (tt_cons (ts_lift (fun al mu => (ds_setLcF 2 nd [("who", 3)] (di_rng1 T.b_range (ad_cons (de_callB ci_len call_len T.b_len (ar_cons (rd (de_fld T.k_Credits (de_var 0))) ar_nil)) ad_nil)) (show blkC N_Credits_step (defScope s_Credits_step) _ _ = true by decide +kernel) (fun _ _ _ _ _ => (dg_nm 3 nd)) (fun _ _ _ _ _ => ts_nil) (fun _ _ _ _ _ => (de_fn (m := fun _ => m_plus) h_plus (hr.mono (by decide)) takes0 (ad_cons (de_ix (rd (de_fld T.k_Credits (de_var 0))) (dr_var 3)) (ad_cons (de_fn (m := fun _ => m_made) h_made (hr.mono (by decide)) takes0 (ad_cons (de_ix (rd (de_fld T.k_Credits (de_var 0))) (dr_var 3)) (ad_cons (de_var 1) ad_nil))) ad_nil)))) (sw_true rfl rfl rfl (by decide +kernel)))))
    (tt_cons (ts_lift (fun al mu => (ds_set 4 nd de_int)))
    (tt_cons (ts_lift (fun al mu => (ds_for po rfl (di_rng2 T.b_range (ad_cons de_int (ad_cons (de_callB ci_len call_len T.b_len (ar_cons (dr_var 2) ar_nil)) ad_nil))) (dg_nm 3 nd)
    (ss_one (ds_if (db_val (de_fn (m := fun _ => m_less) h_less (hr.mono (by decide)) tk (ad_cons (de_ix (dr_var 2) (dr_var 4)) (ad_cons (de_ix (dr_var 2) (dr_var 3)) ad_nil))))
    (ss_one (ds_set 4 nd (de_var 3)))
    ss_nil)))))
    (tt_cons (ts_lift (fun al mu => (ds_put 2 (de_fn (m := fun _ => m_minus) h_minus (hr.mono (by decide)) tk (ad_cons (de_ix (dr_var 2) (dr_var 4)) (ad_cons (de_tup (ad_cons de_int (ad_cons de_int ad_nil))) ad_nil))) (de_var 4))))
    (tt_cons (ts_appC (fun al mu => (de_fld T.k_Credits (de_var 0))) (fun al mu => (de_tup (ad_cons de_str (ad_cons (de_fld T.k_Credits (de_var 0)) ad_nil)))))
    (tt_cons (ts_fld T.k_Credits (fun al mu => (de_var 0)) (te_lift (fun al mu => (de_callTy ci_tuple call_tuple_of T.b_tuple (ar_cons (dr_var 2) ar_nil)))))
    (tt_cons (ts_appC (fun al mu => (de_fld T.k_Credits (de_var 0))) (fun al mu => (de_var 4)))
    (tt_one (ts_lift (fun al mu => (ds_retO 4))))))))))))

abbrev N_Credits_change : List Str := ["self", "weights"]
abbrev g_Credits_change : TS1 := (sSeqT (sP (fun mu => (sIf (bOr (bNot (bV (eFn m_are_weights (aCons (eVar 1) aNil)))) (bV (eBin D.ne (eCall gLen (aCons (eRd 1) aNil)) (eCall gLen (aCons (eFld mu "Credits" "now" (eVar 0)) aNil)))))
    (sRaiseAt .NoPlan (eC (.int 0)))
    sNil)))
    (sSeqT (sAppC (fun mu => (eFld mu "Credits" "deeds" (eVar 0))) (fun mu => (eTup (aCons (eC (.str "change")) (aCons (eFld mu "Credits" "now" (eVar 0)) aNil)))))
    (sFldT "Credits" "now" (fun mu => (eVar 0)) (eP (fun mu => (eCall gTuple (aCons (eRd 1) aNil)))))))
def m_Credits_change : MF := runT 2 2 g_Credits_change
theorem sc_Credits_change : FnScope N_Credits_change ["self", "weights"] (defScope s_Credits_change) := ⟨rfl, rfl, rfl, by decide +kernel, rfl, by decide +kernel, by decide +kernel⟩
theorem ok_Credits_change (T : Tx K mg) (F : MF1 K mg "Credits" "change" "Credits.change" s_Credits_change ["self", "weights"]) (h_NoPlan_init : AtT P w K mg base 1 .NoPlan) (h_are_weights : FnD P w K mg base 2 "are_weights" 1 m_are_weights) : MtT P w K mg base 3 "Credits" "change" 2 m_Credits_change :=
  mt_t F sc_Credits_change rfl rfl fun ex f cdv A outer s H E hr => by have nd := sc_Credits_change.nd; have po := passes_of (X := cxOf (L2.CX P w) P w K mg base N_Credits_change "Credits.change" (defScope s_Credits_change) f cdv A outer s H E) rfl; have tk := takes_of (X := cxOf (L2.CX P w) P w K mg base N_Credits_change "Credits.change" (defScope s_Credits_change) f cdv A outer s H E) rfl rfl rfl rfl; exact
    (tt_cons (ts_lift (fun al mu => (ds_if ((wb_or (db_not (db_val (de_fn (m := fun _ => m_are_weights) h_are_weights (hr.mono (by decide)) tk (ad_cons (de_var 1) ad_nil)))) (wb_or1 (db_cmp opi_ne (op_neD hr.units) (rd (de_callB ci_len call_len T.b_len (ar_cons (dr_var 1) ar_nil))) (rd (de_callB ci_len call_len T.b_len (ar_cons (rd (de_fld T.k_Credits (de_var 0))) ar_nil))))))).pt
    (ss_one (ds_raiseAt h_NoPlan_init rfl tk (hr.mono (by decide)) de_int))
    ss_nil)))
    (tt_cons (ts_appC (fun al mu => (de_fld T.k_Credits (de_var 0))) (fun al mu => (de_tup (ad_cons de_str (ad_cons (de_fld T.k_Credits (de_var 0)) ad_nil)))))
    (tt_one (ts_fld T.k_Credits (fun al mu => (de_var 0)) (te_lift (fun al mu => (de_callTy ci_tuple call_tuple_of T.b_tuple (ar_cons (dr_var 1) ar_nil))))))))

abbrev N_Credits_back : List Str := ["self", "word", "kept"]
abbrev g_Credits_back : TS1 := (sSeqT (sP (fun mu => (sIf (bV (eBin D.eq (eCel mu (eFld mu "Credits" "deeds" (eVar 0))) (eLst aNil)))
    (sRaise .NoStep none)
    sNil)))
    (sSeqT (sUnpT (ePopC (fun mu => (eFld mu "Credits" "deeds" (eVar 0)))) (gTp 2 (gsCons (gNm 1) (gsCons (gNm 2) gsNil))))
    (sSeqT (sIfT (bP (fun mu => (bV (eBin D.eq (eRd 1) (eC (.str "step"))))))
    (sSeqT (sFldT "Credits" "owed" (fun mu => (eVar 0)) (eP (fun mu => (eVar 2))))
    (sExprT (ePopC (fun mu => (eFld mu "Credits" "row" (eVar 0))))))
    (sFldT "Credits" "now" (fun mu => (eVar 0)) (eP (fun mu => (eVar 2)))))
    (sP (fun mu => (sRetO 1))))))
def m_Credits_back : MF := runT 3 1 g_Credits_back
theorem sc_Credits_back : FnScope N_Credits_back ["self"] (defScope s_Credits_back) := ⟨rfl, rfl, rfl, by decide +kernel, rfl, by decide +kernel, by decide +kernel⟩
theorem ok_Credits_back (T : Tx K mg) (F : MF1 K mg "Credits" "back" "Credits.back" s_Credits_back ["self"])  : MtT P w K mg base 1 "Credits" "back" 1 m_Credits_back :=
  mt_t F sc_Credits_back rfl rfl fun ex f cdv A outer s H E hr => by have nd := sc_Credits_back.nd; have po := passes_of (X := cxOf (L2.CX P w) P w K mg base N_Credits_back "Credits.back" (defScope s_Credits_back) f cdv A outer s H E) rfl; have tk := takes_of (X := cxOf (L2.CX P w) P w K mg base N_Credits_back "Credits.back" (defScope s_Credits_back) f cdv A outer s H E) rfl rfl rfl rfl; exact
    (tt_cons (ts_lift (fun al mu => (ds_if (db_cmp opi_eq (op_eqD hr.units) (dr_cel (de_fld T.k_Credits (de_var 0))) (rd (fz (df_lst ad_nil))))
    (ss_one (T.x_NoStep.raise .NoStep rfl tk))
    ss_nil)))
    (tt_cons (ts_unp (te_popC (fun al mu => (de_fld T.k_Credits (de_var 0)))) (fun al mu => (dg_tp rfl (dgs_cons (dg_nm 1 nd) (dgs_cons (dg_nm 2 nd) dgs_nil)))))
    (tt_cons (ts_if (tb_lift (fun al mu => (db_cmp opi_eq (op_eqD hr.units) (dr_var 1) (rd de_str))))
    (tt_cons (ts_fld T.k_Credits (fun al mu => (de_var 0)) (te_lift (fun al mu => (de_var 2))))
    (tt_one (ts_expr (te_popC (fun al mu => (de_fld T.k_Credits (de_var 0)))))))
    (tt_one (ts_fld T.k_Credits (fun al mu => (de_var 0)) (te_lift (fun al mu => (de_var 2))))))
    (tt_one (ts_lift (fun al mu => (ds_retO 1)))))))

abbrev N_L_cell_at : List Str := ["_law_script", "_law_k"]
abbrev g_L_cell_at : Sto → Res := (sSeq (sIf (bV (eBin D.lt (eRd 1) (eCall gLen (aCons (eRd 0) aNil))))
    (sRet (eBin D.item (eRd 0) (eRd 1)))
    sNil)
    (sRet (eC (.int 0))))
def m_L_cell_at : List D → M D := runD 2 2 g_L_cell_at
theorem sc_L_cell_at : FnScope N_L_cell_at ["_law_script", "_law_k"] (defScope s_L_cell_at) := ⟨rfl, rfl, rfl, by decide +kernel, rfl, by decide +kernel, by decide +kernel⟩
theorem ok_L_cell_at (T : Tx K mg) (F : FF K mg "_law_cell_at" s_L_cell_at ["_law_script", "_law_k"])  : FnD P w K mg base 1 "_law_cell_at" 2 m_L_cell_at :=
  ffd F sc_L_cell_at rfl rfl fun al mu ex f cdv A outer s H E hr => by have nd := sc_L_cell_at.nd; have po := passes_of (X := cxOf (L2.CX P w) P w K mg base N_L_cell_at "_law_cell_at" (defScope s_L_cell_at) f cdv A outer s H E) rfl; have tk := takes_of (X := cxOf (L2.CX P w) P w K mg base N_L_cell_at "_law_cell_at" (defScope s_L_cell_at) f cdv A outer s H E) rfl rfl rfl rfl; exact
    (ss_cons (ds_if (db_cmp opi_cmp op_lt (dr_var 1) (rd (de_callB ci_len call_len T.b_len (ar_cons (dr_var 0) ar_nil))))
    (ss_one (ds_ret (de_ix (dr_var 0) (dr_var 1))))
    ss_nil)
    (ss_one (ds_ret de_int)))

abbrev N_L_draw : List Str := ["_law_cell", "_law_k", "_law_bound", "_law_left", "_law_j", "_law_stir"]
abbrev g_L_draw : Sto → Res := (sSeq (sIf (bV (eBin D.ge (eRd 0) (eBin D.pow (eC (.int 10)) (eC (.int 18)))))
    (sSeq (sSet 3 (eVar 0))
    (sSeq (sFor (iR (aCons (eVar 1) aNil)) (gNm 4)
    (sSet 3 (eBin D.fdiv (eRd 3) (eRd 2))))
    (sRet (eBin D.mod (eRd 3) (eRd 2)))))
    sNil)
    (sSeq (sSet 5 (eBin D.mod (eBin D.mul (eBin D.add (eBin D.add (eBin D.mod (eRd 0) (eC (.int 1000000007))) (eBin D.mul (eC (.int 1009)) (eRd 1))) (eC (.int 17))) (eC (.int 69621))) (eC (.int 2147483647))))
    (sSeq (sSet 5 (eBin D.mod (eBin D.add (eBin D.add (eBin D.mul (eRd 5) (eRd 5)) (eBin D.mul (eC (.int 40503)) (eRd 1))) (eC (.int 5))) (eC (.int 2147483629))))
    (sRet (eBin D.mod (eBin D.fdiv (eBin D.mod (eBin D.mul (eRd 5) (eC (.int 48271))) (eC (.int 2147483647))) (eC (.int 32))) (eRd 2))))))
def m_L_draw : List D → M D := runD 6 3 g_L_draw
theorem sc_L_draw : FnScope N_L_draw ["_law_cell", "_law_k", "_law_bound"] (defScope s_L_draw) := ⟨rfl, rfl, rfl, by decide +kernel, rfl, by decide +kernel, by decide +kernel⟩
theorem ok_L_draw (T : Tx K mg) (F : FF K mg "_law_draw" s_L_draw ["_law_cell", "_law_k", "_law_bound"])  : FnD P w K mg base 1 "_law_draw" 3 m_L_draw :=
  ffd F sc_L_draw rfl rfl fun al mu ex f cdv A outer s H E hr => by have nd := sc_L_draw.nd; have po := passes_of (X := cxOf (L2.CX P w) P w K mg base N_L_draw "_law_draw" (defScope s_L_draw) f cdv A outer s H E) rfl; have tk := takes_of (X := cxOf (L2.CX P w) P w K mg base N_L_draw "_law_draw" (defScope s_L_draw) f cdv A outer s H E) rfl rfl rfl rfl; exact
    (ss_cons (ds_if (db_cmp opi_cmp op_ge (dr_var 0) (rd (de_op opi_pow op_pow (rd de_int) (rd de_int))))
    (ss_cons (ds_set 3 nd (de_var 0))
    (ss_cons (ds_for po rfl (di_rng1 T.b_range (ad_cons (de_var 1) ad_nil)) (dg_nm 4 nd)
    (ss_one (ds_set 3 nd (de_op opi_fdiv op_fdivW (dr_var 3) (dr_var 2)))))
    (ss_one (ds_ret (de_op opi_mod op_mod (dr_var 3) (dr_var 2))))))
    ss_nil)
    (ss_cons (ds_set 5 nd (de_op opi_mod op_mod (rd (de_op opi_mul opr_mul (rd (de_op opi_add opr_add (rd (de_op opi_add opr_add (rd (de_op opi_mod op_mod (dr_var 0) (rd de_int))) (rd (de_op opi_mul opr_mul (rd de_int) (dr_var 1))))) (rd de_int))) (rd de_int))) (rd de_int)))
    (ss_cons (ds_set 5 nd (de_op opi_mod op_mod (rd (de_op opi_add opr_add (rd (de_op opi_add opr_add (rd (de_op opi_mul opr_mul (dr_var 5) (dr_var 5))) (rd (de_op opi_mul opr_mul (rd de_int) (dr_var 1))))) (rd de_int))) (rd de_int)))
    (ss_one (ds_ret (de_op opi_mod op_mod (rd (de_op opi_fdiv op_fdivW (rd (de_op opi_mod op_mod (rd (de_op opi_mul opr_mul (dr_var 5) (rd de_int))) (rd de_int))) (rd de_int))) (dr_var 2)))))))

abbrev N_L_weight : List Str := ["_law_cell", "_law_k", "_law_way"]
abbrev g_L_weight : Sto → Res := (sSeq (sSet 2 (eFn m_L_draw (aCons (eVar 0) (aCons (eVar 1) (aCons (eC (.int 9)) aNil)))))
    (sRet (eBin D.item (eLst (aCons (eC (.int 0)) (aCons (eC (.int 1)) (aCons (eC (.int 1)) (aCons (eC (.int 2)) (aCons (eC (.int 3)) (aCons (eC (.int 5)) (aCons (eC (.int 7)) (aCons (eBin D.add (eC (.int 1)) (eFn m_L_draw (aCons (eVar 0) (aCons (eBin D.add (eRd 1) (eC (.int 40))) (aCons (eC (.int 30)) aNil))))) (aCons (eFn m_L_draw (aCons (eVar 0) (aCons (eBin D.add (eRd 1) (eC (.int 41))) (aCons (eC (.int 1001)) aNil)))) aNil)))))))))) (eRd 2))))
def m_L_weight : List D → M D := runD 3 2 g_L_weight
theorem sc_L_weight : FnScope N_L_weight ["_law_cell", "_law_k"] (defScope s_L_weight) := ⟨rfl, rfl, rfl, by decide +kernel, rfl, by decide +kernel, by decide +kernel⟩
theorem ok_L_weight (T : Tx K mg) (F : FF K mg "_law_weight" s_L_weight ["_law_cell", "_law_k"]) (h_L_draw : FnD P w K mg base 1 "_law_draw" 3 m_L_draw) : FnD P w K mg base 2 "_law_weight" 2 m_L_weight :=
  ffd F sc_L_weight rfl rfl fun al mu ex f cdv A outer s H E hr => by have nd := sc_L_weight.nd; have po := passes_of (X := cxOf (L2.CX P w) P w K mg base N_L_weight "_law_weight" (defScope s_L_weight) f cdv A outer s H E) rfl; have tk := takes_of (X := cxOf (L2.CX P w) P w K mg base N_L_weight "_law_weight" (defScope s_L_weight) f cdv A outer s H E) rfl rfl rfl rfl; exact
    (ss_cons (ds_set 2 nd (de_fn (m := fun _ => m_L_draw) h_L_draw (hr.mono (by decide)) tk (ad_cons (de_var 0) (ad_cons (de_var 1) (ad_cons de_int ad_nil)))))
    (ss_one (ds_ret (de_ix (rd (fz (df_lst (ad_cons de_int (ad_cons de_int (ad_cons de_int (ad_cons de_int (ad_cons de_int (ad_cons de_int (ad_cons de_int (ad_cons (de_op opi_add opr_add (rd de_int) (rd (de_fn (m := fun _ => m_L_draw) h_L_draw (hr.mono (by decide)) tk (ad_cons (de_var 0) (ad_cons (de_op opi_add opr_add (dr_var 1) (rd de_int)) (ad_cons de_int ad_nil)))))) (ad_cons (de_fn (m := fun _ => m_L_draw) h_L_draw (hr.mono (by decide)) tk (ad_cons (de_var 0) (ad_cons (de_op opi_add opr_add (dr_var 1) (rd de_int)) (ad_cons de_int ad_nil)))) ad_nil)))))))))))) (dr_var 2)))))

abbrev N_L_weights : List Str := ["_law_cell", "_law_many", "_law_weights_here", "_law_who"]
abbrev g_L_weights : Sto → Res := (sSeq (sSetF 2 (eLc (iR (aCons (eVar 1) aNil)) (gNm 3) bYes (eFn m_L_weight (aCons (eVar 0) (aCons (eVar 3) aNil))) [3]))
    (sSeq (sIf (bV (eBin D.eq (eCall gSumA (aCons (eRd 2) aNil)) (eC (.int 0))))
    (sPut 2 (eFn m_L_draw (aCons (eVar 0) (aCons (eC (.int 9)) (aCons (eVar 1) aNil)))) (eC (.int 1)))
    sNil)
    (sRetO 2)))
def m_L_weights : List D → M D := runD 4 2 g_L_weights
theorem sc_L_weights : FnScope N_L_weights ["_law_cell", "_law_many"] (defScope s_L_weights) := ⟨rfl, rfl, rfl, by decide +kernel, rfl, by decide +kernel, by decide +kernel⟩
theorem ok_L_weights (T : Tx K mg) (F : FF K mg "_law_weights" s_L_weights ["_law_cell", "_law_many"]) (h_L_draw : FnD P w K mg base 1 "_law_draw" 3 m_L_draw) (h_L_weight : FnD P w K mg base 2 "_law_weight" 2 m_L_weight) : FnD P w K mg base 3 "_law_weights" 2 m_L_weights :=
  ffd F sc_L_weights rfl rfl fun al mu ex f cdv A outer s H E hr => by have nd := sc_L_weights.nd; have po := passes_of (X := cxOf (L2.CX P w) P w K mg base N_L_weights "_law_weights" (defScope s_L_weights) f cdv A outer s H E) rfl; have tk := takes_of (X := cxOf (L2.CX P w) P w K mg base N_L_weights "_law_weights" (defScope s_L_weights) f cdv A outer s H E) rfl rfl rfl rfl; exact
    (ss_cons (ds_setLcF 2 nd [("_law_who", 3)] (di_rng1 T.b_range (ad_cons (de_var 1) ad_nil)) (show blkC N_L_weights (defScope s_L_weights) _ _ = true by decide +kernel) (fun _ _ _ _ _ => (dg_nm 3 nd)) (fun _ _ _ _ _ => ts_nil) (fun _ _ _ _ _ => (de_fn (m := fun _ => m_L_weight) h_L_weight (hr.mono (by decide)) takes0 (ad_cons (de_var 0) (ad_cons (de_var 3) ad_nil)))) (sw_true rfl rfl rfl (by decide +kernel)))
    (ss_cons (ds_if (db_cmp opi_eq (op_eqD hr.units) (rd (de_callB ci_sumA (cr_sumT rfl) T.b_sum (ar_cons (dr_var 2) ar_nil))) (rd de_int))
    (ss_one (ds_put 2 de_int (de_fn (m := fun _ => m_L_draw) h_L_draw (hr.mono (by decide)) tk (ad_cons (de_var 0) (ad_cons de_int (ad_cons (de_var 1) ad_nil))))))
    ss_nil)
    (ss_one (ds_retO 2))))

abbrev N_L_seen : List Str := ["_law_keeper"]
abbrev g_L_seen : Tbl → Sto → Res := fun mu => (sRet (eTup (aCons (eMt mu "Credits" "owing" (m_Credits_owing mu) (eVar 0) aNil) (aCons (eMt mu "Credits" "weights" (m_Credits_weights mu) (eVar 0) aNil) (aCons (eMt mu "Credits" "told" (m_Credits_told mu) (eVar 0) aNil) aNil)))))
def m_L_seen : Tbl → List D → M D := fun mu => runD 1 1 (g_L_seen mu)
theorem sc_L_seen : FnScope N_L_seen ["_law_keeper"] (defScope s_L_seen) := ⟨rfl, rfl, rfl, by decide +kernel, rfl, by decide +kernel, by decide +kernel⟩
theorem ok_L_seen (T : Tx K mg) (F : FF K mg "_law_seen" s_L_seen ["_law_keeper"]) (h_Credits_weights : MtF P w K mg base 1 "Credits" "weights" 1 m_Credits_weights) (h_Credits_owing : MtF P w K mg base 1 "Credits" "owing" 1 m_Credits_owing) (h_Credits_told : MtF P w K mg base 1 "Credits" "told" 1 m_Credits_told) : FnR P w K mg base 2 "_law_seen" 1 m_L_seen :=
  ffr F sc_L_seen rfl rfl fun al mu ex f cdv A outer s H E hr => by have nd := sc_L_seen.nd; have po := passes_of (X := cxOf (L2.CX P w) P w K mg base N_L_seen "_law_seen" (defScope s_L_seen) f cdv A outer s H E) rfl; have tk := takes_of (X := cxOf (L2.CX P w) P w K mg base N_L_seen "_law_seen" (defScope s_L_seen) f cdv A outer s H E) rfl rfl rfl rfl; exact
    (ss_one (ds_ret (de_tup (ad_cons (de_mt0 (m := m_Credits_owing) h_Credits_owing.r (hr.mono (by decide)) tk (de_var 0)) (ad_cons (de_mt0 (m := m_Credits_weights) h_Credits_weights.r (hr.mono (by decide)) tk (de_var 0)) (ad_cons (de_mt0 (m := m_Credits_told) h_Credits_told.r (hr.mono (by decide)) tk (de_var 0)) ad_nil))))))

abbrev N_L_said : List Str := ["_law_keeper", "_law_way", "_law_thing", "_law_found", "e"]
abbrev g_L_said : TS1 := (sSeqT (sP (fun mu => (sSet 3 (eC (.str "told")))))
    (sSeqT (sTryT 4 [.NoPlan, .NoStep] (sIfT (bP (fun mu => (bV (eBin D.eq (eRd 1) (eC (.int 0))))))
    (sSetT 3 (eMtT "Credits" "back" m_Credits_back (fun mu => (eVar 0)) fun _ => aNil))
    (sIfT (bP (fun mu => (bV (eBin D.eq (eRd 1) (eC (.int 1))))))
    (sExprT (eMtT "Credits" "change" m_Credits_change (fun mu => (eVar 0)) (fun mu => (aCons (eVar 2) aNil))))
    (sExprT (eNewT "Credits" m_Credits_init (fun mu => (aCons (eVar 2) aNil))))))
    (sSeqT (sP (fun mu => (sIf (bOr (bV (eXis 4 [.NoPlan, .NoStep] fun c => c.isa .NoRow || c.isa .NoTurns)) (bNot (bV (eXis 4 [.NoPlan, .NoStep] fun _ => true))))
    (sRet (eC (.str "odd")))
    sNil)))
    (sSeqT (sP (fun mu => (sSet 3 (eIf (bV (eXis 4 [.NoPlan, .NoStep] fun c => c.isa .NoStep)) (eC (.str "none")) (eC (.str "odd"))))))
    (sP (fun mu => (sIf (bV (eXis 4 [.NoPlan, .NoStep] fun c => c.isa .NoPlan))
    (sSet 3 (eXat 4 [.NoPlan]))
    sNil))))))
    (sP (fun mu => (sRetO 3)))))
def m_L_said : MF := runT 5 3 g_L_said
theorem sc_L_said : FnScope N_L_said ["_law_keeper", "_law_way", "_law_thing"] (defScope s_L_said) := ⟨rfl, rfl, rfl, by decide +kernel, rfl, by decide +kernel, by decide +kernel⟩
theorem ok_L_said (T : Tx K mg) (F : FF K mg "_law_said" s_L_said ["_law_keeper", "_law_way", "_law_thing"]) (h_Credits_init : MkT P w K mg base 3 "Credits" 2 m_Credits_init) (h_Credits_change : MtT P w K mg base 3 "Credits" "change" 2 m_Credits_change) (h_Credits_back : MtT P w K mg base 1 "Credits" "back" 1 m_Credits_back) : FnT P w K mg base 5 "_law_said" 3 m_L_said :=
  fft F sc_L_said rfl rfl fun ex f cdv A outer s H E hr => by have nd := sc_L_said.nd; have po := passes_of (X := cxOf (L2.CX P w) P w K mg base N_L_said "_law_said" (defScope s_L_said) f cdv A outer s H E) rfl; have tk := takes_of (X := cxOf (L2.CX P w) P w K mg base N_L_said "_law_said" (defScope s_L_said) f cdv A outer s H E) rfl rfl rfl rfl; exact
    (tt_cons (ts_lift (fun al mu => (ds_set 3 nd de_str)))
    (tt_cons (ts_try T.duex 4 nd tk (fun _ pn xe tk po => (tt_one (ts_if (tb_lift (fun al mu => (db_cmp opi_eq (op_eqD hr.units) (dr_var 1) (rd de_int))))
    (tt_one (ts_set 3 nd (te_mt0 h_Credits_back (hr.mono (by decide)) tk (fun al mu => (de_var 0)))))
    (tt_one (ts_if (tb_lift (fun al mu => (db_cmp opi_eq (op_eqD hr.units) (dr_var 1) (rd de_int))))
    (tt_one (ts_expr (te_mt h_Credits_change (hr.mono (by decide)) tk (fun al mu => (de_var 0)) (fun al mu => (ad_cons (de_var 2) ad_nil)))))
    (tt_one (ts_expr (te_new h_Credits_init (hr.mono (by decide)) tk (fun al mu => (ad_cons (de_var 2) ad_nil))))))))))
    (fun a oe cls d pn hz hf => (tt_cons (ts_lift (fun al mu => (ds_if ((wb_or (db_val (de_xis2 (t := .NoRow) (t' := .NoTurns) 4 T.xc T.xp_NoRow T.xp_NoTurns T.b_isinstance hz hf)) (wb_or1 (db_not (db_val (de_xisV 4 T.xc T.xv T.b_isinstance T.b_ValueError hz hf)))))).pt
    (ss_one (ds_ret de_str))
    ss_nil)))
    (tt_cons (ts_lift (fun al mu => (ds_set 3 nd (de_if (db_val (de_xis (t := .NoStep) 4 T.xc T.xp_NoStep T.b_isinstance hz hf)) de_str de_str))))
    (tt_one (ts_lift (fun al mu => (ds_if (db_val (de_xis (t := .NoPlan) 4 T.xc T.xp_NoPlan T.b_isinstance hz hf))
    (ss_one (ds_set 3 nd (de_xat 4 T.xa hz hf)))
    ss_nil))))))))
    (tt_one (ts_lift (fun al mu => (ds_retO 3))))))

abbrev N_L_back : List Str := ["_law_keeper", "_law_past", "_law_word", "_law_seen_here"]
abbrev g_L_back : TS1 := (sSeqT (sIfT (bP (fun mu => (bV (eBin D.eq (eCv mu 1) (eLst aNil)))))
    (sRetT (eBinT D.eq (eFnT m_L_said (fun mu => (aCons (eVar 0) (aCons (eC (.int 0)) (aCons (eC .non) aNil))))) (fun mu => (eC (.str "none")))))
    sNilT)
    (sSeqT (sUnpT (ePopC (fun mu => (eVar 1))) (gTp 2 (gsCons (gNm 2) (gsCons (gNm 3) gsNil))))
    (sRetT (eAndT (eBinT D.eq (eFnT m_L_said (fun mu => (aCons (eVar 0) (aCons (eC (.int 0)) (aCons (eC .non) aNil))))) (fun mu => (eRd 2))) (eP (fun mu => (eBin D.eq (eFn (m_L_seen mu) (aCons (eVar 0) aNil)) (eRd 3))))))))
def m_L_back : MF := runT 4 2 g_L_back
theorem sc_L_back : FnScope N_L_back ["_law_keeper", "_law_past"] (defScope s_L_back) := ⟨rfl, rfl, rfl, by decide +kernel, rfl, by decide +kernel, by decide +kernel⟩
theorem ok_L_back (T : Tx K mg) (F : FF K mg "_law_back" s_L_back ["_law_keeper", "_law_past"]) (h_L_seen : FnR P w K mg base 2 "_law_seen" 1 m_L_seen) (h_L_said : FnT P w K mg base 5 "_law_said" 3 m_L_said) : FnT P w K mg base 6 "_law_back" 2 m_L_back :=
  fft F sc_L_back rfl rfl fun ex f cdv A outer s H E hr => by have nd := sc_L_back.nd; have po := passes_of (X := cxOf (L2.CX P w) P w K mg base N_L_back "_law_back" (defScope s_L_back) f cdv A outer s H E) rfl; have tk := takes_of (X := cxOf (L2.CX P w) P w K mg base N_L_back "_law_back" (defScope s_L_back) f cdv A outer s H E) rfl rfl rfl rfl; exact
    (tt_cons (ts_if (tb_lift (fun al mu => (db_cmp opi_eq (op_eqD hr.units) (dr_cv 1) (rd (fz (df_lst ad_nil))))))
    (tt_one (ts_ret (te_cmp (fun _ _ => opi_eq) (op_eqD hr.units) (te_fn h_L_said (hr.mono (by decide)) tk (fun al mu => (ad_cons (de_var 0) (ad_cons de_int (ad_cons de_non ad_nil))))) (fun al mu => (rd de_str)))))
    tt_nil)
    (tt_cons (ts_unp (te_popC (fun al mu => (de_var 1))) (fun al mu => (dg_tp rfl (dgs_cons (dg_nm 2 nd) (dgs_cons (dg_nm 3 nd) dgs_nil)))))
    (tt_one (ts_ret (te_and (te_cmp (fun _ _ => opi_eq) (op_eqD hr.units) (te_fn h_L_said (hr.mono (by decide)) tk (fun al mu => (ad_cons (de_var 0) (ad_cons de_int (ad_cons de_non ad_nil))))) (fun al mu => (dr_var 2))) (te_one (te_lift (fun al mu => (de_cmp opi_eq (op_eqD hr.units) (rd (de_fn (m := m_L_seen) h_L_seen (hr.mono (by decide)) tk (ad_cons (de_var 0) ad_nil))) (dr_var 3))))))))))

abbrev N_L_none_made : List Str := ["_law_keeper", "_law_many", "_law_thing"]
abbrev g_L_none_made : TS1 := (sSeqT (sForT (fun mu => (iL (eLst (aCons (eC .non) (aCons (eLst aNil) (aCons (eBin D.mul (eLst (aCons (eC (.int 0)) aNil)) (eRd 1)) (aCons (eBin D.mul (eLst (aCons (eC (.int 1)) aNil)) (eC (.int 7))) (aCons (eTup (aCons (eC (.int 1)) aNil)) (aCons (eLst (aCons (eUn D.neg (eC (.int 1))) aNil)) (aCons (eLst (aCons (eC (.int 1)) (aCons (eC .non) aNil))) (aCons (eC (.str "1")) (aCons (eC (.int 5)) (aCons (eLst (aCons (eC (.int 1)) (aCons (eC (.bl true)) aNil))) aNil))))))))))))) (gNm 2)
    (sIfT (bVT (eBinT D.ne (eFnT m_L_said (fun mu => (aCons (eVar 0) (aCons (eC (.int 2)) (aCons (eVar 2) aNil))))) (fun mu => (eC (.int 0)))))
    (sP (fun mu => (sRet (eC (.bl false)))))
    sNilT))
    (sP (fun mu => (sRet (eC (.bl true))))))
def m_L_none_made : MF := runT 3 2 g_L_none_made
theorem sc_L_none_made : FnScope N_L_none_made ["_law_keeper", "_law_many"] (defScope s_L_none_made) := ⟨rfl, rfl, rfl, by decide +kernel, rfl, by decide +kernel, by decide +kernel⟩
theorem ok_L_none_made (T : Tx K mg) (F : FF K mg "_law_none_made" s_L_none_made ["_law_keeper", "_law_many"]) (h_L_said : FnT P w K mg base 5 "_law_said" 3 m_L_said) : FnT P w K mg base 6 "_law_none_made" 2 m_L_none_made :=
  fft F sc_L_none_made rfl rfl fun ex f cdv A outer s H E hr => by have nd := sc_L_none_made.nd; have po := passes_of (X := cxOf (L2.CX P w) P w K mg base N_L_none_made "_law_none_made" (defScope s_L_none_made) f cdv A outer s H E) rfl; have tk := takes_of (X := cxOf (L2.CX P w) P w K mg base N_L_none_made "_law_none_made" (defScope s_L_none_made) f cdv A outer s H E) rfl rfl rfl rfl; exact
    (tt_cons (ts_for po rfl (fun al mu => (di_list (fz (df_lst (ad_cons de_non (ad_cons (fz (df_lst ad_nil)) (ad_cons (de_op opi_mul opr_mul (rd (fz (df_lst (ad_cons de_int ad_nil)))) (dr_var 1)) (ad_cons (de_op opi_mul opr_mul (rd (fz (df_lst (ad_cons de_int ad_nil)))) (rd de_int)) (ad_cons (de_tup (ad_cons de_int ad_nil)) (ad_cons (fz (df_lst (ad_cons (de_neg (rd de_int)) ad_nil))) (ad_cons (fz (df_lst (ad_cons de_int (ad_cons de_non ad_nil)))) (ad_cons de_str (ad_cons de_int (ad_cons (fz (df_lst (ad_cons de_int (ad_cons de_bl ad_nil)))) ad_nil)))))))))))))) (fun al mu => (dg_nm 2 nd))
    (tt_one (ts_if (tb_cmp (fun _ _ => opi_ne) (op_neD hr.units) (te_fn h_L_said (hr.mono (by decide)) tk (fun al mu => (ad_cons (de_var 0) (ad_cons de_int (ad_cons (de_var 2) ad_nil))))) (fun al mu => (rd de_int)))
    (tt_one (ts_lift (fun al mu => (ds_ret de_bl))))
    tt_nil)))
    (tt_one (ts_lift (fun al mu => (ds_ret de_bl)))))

abbrev N_law : List Str := ["_law_script", "_law_many", "_law_keeper", "_law_past", "_law_cell", "_law_way", "_law_seen_here", "_law_payer", "_law_behind", "_law_odd", "_law_held", "_law_coming", "_law_thing", "_law_k"]
abbrev g_law : TS1 := (sSeqT (sP (fun mu => (sSet 1 (eBin D.add (eC (.int 1)) (eFn m_L_draw (aCons (eFn m_L_cell_at (aCons (eVar 0) (aCons (eC (.int 0)) aNil))) (aCons (eC (.int 20)) (aCons (eC (.int 5)) aNil))))))))
    (sSeqT (sSetT 2 (eNewT "Credits" m_Credits_init (fun mu => (aCons (eFn m_L_weights (aCons (eFn m_L_cell_at (aCons (eVar 0) (aCons (eC (.int 0)) aNil))) (aCons (eVar 1) aNil))) aNil))))
    (sSeqT (sSetT 3 (eNewL (fun mu => (eLst aNil))))
    (sSeqT (sForT (fun mu => (iL (eBin D.add (eSl (eRd 0) (oI (eC (.int 1))) (oI (eC (.int 31)))) (eLst (aCons (eC (.int 4)) aNil))))) (gNm 4)
    (sSeqT (sP (fun mu => (sSet 5 (eFn m_L_draw (aCons (eVar 4) (aCons (eC (.int 30)) (aCons (eC (.int 5)) aNil)))))))
    (sSeqT (sP (fun mu => (sSet 6 (eFn (m_L_seen mu) (aCons (eVar 2) aNil)))))
    (sSeqT (sIfT (bP (fun mu => (bV (eBin D.lt (eRd 5) (eC (.int 2))))))
    (sSeqT (sSetT 7 (eMtT "Credits" "step" m_Credits_step (fun mu => (eVar 2)) fun _ => aNil))
    (sSeqT (sP (fun mu => (sSet 8 (eFn (m_L_seen mu) (aCons (eVar 2) aNil)))))
    (sSeqT (sIfT (bOrT (bVT (eBinT D.ne (eMtT "Credits" "back" m_Credits_back (fun mu => (eVar 2)) fun _ => aNil) (fun mu => (eC (.str "step"))))) (bOrT (bP (fun mu => (bV (eBin D.ne (eFn (m_L_seen mu) (aCons (eVar 2) aNil)) (eRd 6))))) (bVT (eBinT D.ne (eMtT "Credits" "step" m_Credits_step (fun mu => (eVar 2)) fun _ => aNil) (fun mu => (eRd 7))))))
    (sP (fun mu => (sRet (eC (.bl false)))))
    sNilT)
    (sSeqT (sP (fun mu => (sIf (bV (eBin D.ne (eFn (m_L_seen mu) (aCons (eVar 2) aNil)) (eRd 8)))
    (sRet (eC (.bl false)))
    sNil)))
    (sAppC (fun mu => (eVar 3)) (fun mu => (eTup (aCons (eC (.str "step")) (aCons (eVar 6) aNil)))))))))
    (sIfT (bP (fun mu => (bV (eBin D.eq (eRd 5) (eC (.int 2))))))
    (sSeqT (sExprT (eMtT "Credits" "change" m_Credits_change (fun mu => (eVar 2)) (fun mu => (aCons (eFn m_L_weights (aCons (eVar 4) (aCons (eVar 1) aNil))) aNil))))
    (sAppC (fun mu => (eVar 3)) (fun mu => (eTup (aCons (eC (.str "change")) (aCons (eVar 6) aNil))))))
    (sIfT (bNotT (bVT (eFnT m_L_back (fun mu => (aCons (eVar 2) (aCons (eVar 3) aNil))))))
    (sP (fun mu => (sRet (eC (.bl false)))))
    sNilT)))
    (sSeqT (sP (fun mu => (sSet 9 (eLst (aCons (eC .non) (aCons (eLst aNil) (aCons (eBin D.mul (eLst (aCons (eC (.int 0)) aNil)) (eRd 1)) (aCons (eBin D.mul (eLst (aCons (eC (.int 1)) aNil)) (eBin D.add (eRd 1) (eC (.int 1)))) (aCons (eBin D.mul (eTup (aCons (eC (.int 1)) aNil)) (eRd 1)) (aCons (eBin D.mul (eLst (aCons (eC (.int 1001)) aNil)) (eRd 1)) (aCons (eBin D.mul (eLst (aCons (eC (.bl true)) aNil)) (eRd 1)) (aCons (eBin D.mul (eLst (aCons (eC (.str "1")) aNil)) (eRd 1)) aNil))))))))))))
    (sSeqT (sP (fun mu => (sSet 10 (eFn (m_L_seen mu) (aCons (eVar 2) aNil)))))
    (sSeqT (sP (fun mu => (sSet 11 (eC .non))))
    (sSeqT (sIfT (bP (fun mu => (bV (eBin D.eq (eFn m_L_draw (aCons (eVar 4) (aCons (eC (.int 33)) (aCons (eC (.int 2)) aNil)))) (eC (.int 0))))))
    (sSetT 11 (eTupT (aConsT (eMtT "Credits" "step" m_Credits_step (fun mu => (eVar 2)) fun _ => aNil) (aConsT (eP (fun mu => (eFn (m_L_seen mu) (aCons (eVar 2) aNil)))) (aConsT (eMtT "Credits" "back" m_Credits_back (fun mu => (eVar 2)) fun _ => aNil) aNilT)))))
    sNilT)
    (sSeqT (sForT (fun mu => (iL (eLst (aCons (eBin D.item (eRd 9) (eFn m_L_draw (aCons (eVar 4) (aCons (eC (.int 32)) (aCons (eC (.int 8)) aNil))))) (aCons (eBin D.add (eBin D.mul (eLst (aCons (eC (.int 1000)) aNil)) (eBin D.sub (eRd 1) (eC (.int 1)))) (eLst (aCons (eC (.int 1001)) aNil))) aNil))))) (gNm 12)
    (sIfT (bOrT (bVT (eBinT D.ne (eFnT m_L_said (fun mu => (aCons (eVar 2) (aCons (eC (.int 1)) (aCons (eVar 12) aNil))))) (fun mu => (eC (.int 0))))) (bP (fun mu => (bV (eBin D.ne (eFn (m_L_seen mu) (aCons (eVar 2) aNil)) (eRd 10))))))
    (sP (fun mu => (sRet (eC (.bl false)))))
    sNilT))
    (sSeqT (sIfT (bAndT (bP (fun mu => (bV (eBin D.notN (eRd 11) (eC .non))))) (bVT (eBinT D.ne (eTupT (aConsT (eMtT "Credits" "step" m_Credits_step (fun mu => (eVar 2)) fun _ => aNil) (aConsT (eP (fun mu => (eFn (m_L_seen mu) (aCons (eVar 2) aNil)))) (aConsT (eMtT "Credits" "back" m_Credits_back (fun mu => (eVar 2)) fun _ => aNil) aNilT)))) (fun mu => (eRd 11)))))
    (sP (fun mu => (sRet (eC (.bl false)))))
    sNilT)
    (sP (fun mu => (sIf (bV (eBin D.ne (eFn (m_L_seen mu) (aCons (eVar 2) aNil)) (eRd 10)))
    (sRet (eC (.bl false)))
    sNil)))))))))))))
    (sSeqT (sForT (fun mu => (iR (aCons (eBin D.add (eCall gLen (aCons (eCv mu 3) aNil)) (eC (.int 1))) aNil))) (gNm 13)
    (sIfT (bNotT (bVT (eFnT m_L_back (fun mu => (aCons (eVar 2) (aCons (eVar 3) aNil))))))
    (sP (fun mu => (sRet (eC (.bl false)))))
    sNilT))
    (sRetT (eAndT (eFnT m_L_none_made (fun mu => (aCons (eVar 2) (aCons (eVar 1) aNil)))) (eAndT (eP (fun mu => (eBin D.eq (eMt mu "Credits" "told" (m_Credits_told mu) (eVar 2) aNil) (eLst aNil)))) (eP (fun mu => (eBin D.eq (eMt mu "Credits" "owing" (m_Credits_owing mu) (eVar 2) aNil) (eBin D.mul (eLst (aCons (eTup (aCons (eC (.int 0)) (aCons (eC (.int 1)) aNil))) aNil)) (eRd 1)))))))))))))
def m_law : MF := runT 14 1 g_law
theorem sc_law : FnScope N_law ["_law_script"] (defScope s_law) := ⟨rfl, rfl, rfl, by decide +kernel, rfl, by decide +kernel, by decide +kernel⟩
theorem ok_law (T : Tx K mg) (ex : Option XV) (f : Addr) (cdv : Value) (A : Around) (outer : List Env) (s : Shared) (H : Hp) (E : XK) (hr : Room 6 (A.deeper (envOfC "law" (defScope s_law) s.heap.objs.size f cdv))) (h_Credits_init : MkT P w K mg base 3 "Credits" 2 m_Credits_init) (h_Credits_owing : MtF P w K mg base 1 "Credits" "owing" 1 m_Credits_owing) (h_Credits_told : MtF P w K mg base 1 "Credits" "told" 1 m_Credits_told) (h_Credits_step : MtT P w K mg base 4 "Credits" "step" 1 m_Credits_step) (h_Credits_change : MtT P w K mg base 3 "Credits" "change" 2 m_Credits_change) (h_Credits_back : MtT P w K mg base 1 "Credits" "back" 1 m_Credits_back) (h_L_cell_at : FnD P w K mg base 1 "_law_cell_at" 2 m_L_cell_at) (h_L_draw : FnD P w K mg base 1 "_law_draw" 3 m_L_draw) (h_L_weights : FnD P w K mg base 3 "_law_weights" 2 m_L_weights) (h_L_seen : FnR P w K mg base 2 "_law_seen" 1 m_L_seen) (h_L_said : FnT P w K mg base 5 "_law_said" 3 m_L_said) (h_L_back : FnT P w K mg base 6 "_law_back" 2 m_L_back) (h_L_none_made : FnT P w K mg base 6 "_law_none_made" 2 m_L_none_made) : PSs (cxOf (L2.CX P w) P w K mg base N_law "law" (defScope s_law) f cdv A outer s H E) (defBody s_law) (TST K mg ex (fun cls d _ H' => E cls d H') g_law) := by have nd := sc_law.nd; have po := passes_of (X := cxOf (L2.CX P w) P w K mg base N_law "law" (defScope s_law) f cdv A outer s H E) rfl; have tk := takes_of (X := cxOf (L2.CX P w) P w K mg base N_law "law" (defScope s_law) f cdv A outer s H E) rfl rfl rfl rfl; exact
    (tt_cons (ts_lift (fun al mu => (ds_set 1 nd (de_op opi_add opr_add (rd de_int) (rd (de_fn (m := fun _ => m_L_draw) h_L_draw (hr.mono (by decide)) tk (ad_cons (de_fn (m := fun _ => m_L_cell_at) h_L_cell_at (hr.mono (by decide)) tk (ad_cons (de_var 0) (ad_cons de_int ad_nil))) (ad_cons de_int (ad_cons de_int ad_nil)))))))))
    (tt_cons (ts_set 2 nd (te_new h_Credits_init (hr.mono (by decide)) tk (fun al mu => (ad_cons (de_fn (m := fun _ => m_L_weights) h_L_weights (hr.mono (by decide)) tk (ad_cons (de_fn (m := fun _ => m_L_cell_at) h_L_cell_at (hr.mono (by decide)) tk (ad_cons (de_var 0) (ad_cons de_int ad_nil))) (ad_cons (de_var 1) ad_nil))) ad_nil))))
    (tt_cons (ts_set 3 nd (te_newL (fun al mu => (df_lst ad_nil))))
    (tt_cons (ts_for po rfl (fun al mu => (di_list (de_op opi_add opr_add (rd (de_sl (dr_var 0) (do_i de_int) (do_i de_int))) (rd (fz (df_lst (ad_cons de_int ad_nil))))))) (fun al mu => (dg_nm 4 nd))
    (tt_cons (ts_lift (fun al mu => (ds_set 5 nd (de_fn (m := fun _ => m_L_draw) h_L_draw (hr.mono (by decide)) tk (ad_cons (de_var 4) (ad_cons de_int (ad_cons de_int ad_nil)))))))
    (tt_cons (ts_lift (fun al mu => (ds_set 6 nd (de_fn (m := m_L_seen) h_L_seen (hr.mono (by decide)) tk (ad_cons (de_var 2) ad_nil)))))
    (tt_cons (ts_if (tb_lift (fun al mu => (db_cmp opi_cmp op_lt (dr_var 5) (rd de_int))))
    (tt_cons (ts_set 7 nd (te_mt0 h_Credits_step (hr.mono (by decide)) tk (fun al mu => (de_var 2))))
    (tt_cons (ts_lift (fun al mu => (ds_set 8 nd (de_fn (m := m_L_seen) h_L_seen (hr.mono (by decide)) tk (ad_cons (de_var 2) ad_nil)))))
    (tt_cons (ts_if ((wt_or (tb_cmp (fun _ _ => opi_ne) (op_neD hr.units) (te_mt0 h_Credits_back (hr.mono (by decide)) tk (fun al mu => (de_var 2))) (fun al mu => (rd de_str))) (wt_or (tb_lift (fun al mu => (db_cmp opi_ne (op_neD hr.units) (rd (de_fn (m := m_L_seen) h_L_seen (hr.mono (by decide)) tk (ad_cons (de_var 2) ad_nil))) (dr_var 6)))) (wt_or1 (tb_cmp (fun _ _ => opi_ne) (op_neD hr.units) (te_mt0 h_Credits_step (hr.mono (by decide)) tk (fun al mu => (de_var 2))) (fun al mu => (dr_var 7))))))).pt
    (tt_one (ts_lift (fun al mu => (ds_ret de_bl))))
    tt_nil)
    (tt_cons (ts_lift (fun al mu => (ds_if (db_cmp opi_ne (op_neD hr.units) (rd (de_fn (m := m_L_seen) h_L_seen (hr.mono (by decide)) tk (ad_cons (de_var 2) ad_nil))) (dr_var 8))
    (ss_one (ds_ret de_bl))
    ss_nil)))
    (tt_one (ts_appC (fun al mu => (de_var 3)) (fun al mu => (de_tup (ad_cons de_str (ad_cons (de_var 6) ad_nil))))))))))
    (tt_one (ts_if (tb_lift (fun al mu => (db_cmp opi_eq (op_eqD hr.units) (dr_var 5) (rd de_int))))
    (tt_cons (ts_expr (te_mt h_Credits_change (hr.mono (by decide)) tk (fun al mu => (de_var 2)) (fun al mu => (ad_cons (de_fn (m := fun _ => m_L_weights) h_L_weights (hr.mono (by decide)) tk (ad_cons (de_var 4) (ad_cons (de_var 1) ad_nil))) ad_nil))))
    (tt_one (ts_appC (fun al mu => (de_var 3)) (fun al mu => (de_tup (ad_cons de_str (ad_cons (de_var 6) ad_nil)))))))
    (tt_one (ts_if (tb_not (tb_val (te_fn h_L_back (hr.mono (by decide)) tk (fun al mu => (ad_cons (de_var 2) (ad_cons (de_var 3) ad_nil))))))
    (tt_one (ts_lift (fun al mu => (ds_ret de_bl))))
    tt_nil)))))
    (tt_cons (ts_lift (fun al mu => (ds_set 9 nd (fz (df_lst (ad_cons de_non (ad_cons (fz (df_lst ad_nil)) (ad_cons (de_op opi_mul opr_mul (rd (fz (df_lst (ad_cons de_int ad_nil)))) (dr_var 1)) (ad_cons (de_op opi_mul opr_mul (rd (fz (df_lst (ad_cons de_int ad_nil)))) (rd (de_op opi_add opr_add (dr_var 1) (rd de_int)))) (ad_cons (de_op opi_mul opr_mul (rd (de_tup (ad_cons de_int ad_nil))) (dr_var 1)) (ad_cons (de_op opi_mul opr_mul (rd (fz (df_lst (ad_cons de_int ad_nil)))) (dr_var 1)) (ad_cons (de_op opi_mul opr_mul (rd (fz (df_lst (ad_cons de_bl ad_nil)))) (dr_var 1)) (ad_cons (de_op opi_mul opr_mul (rd (fz (df_lst (ad_cons de_str ad_nil)))) (dr_var 1)) ad_nil)))))))))))))
    (tt_cons (ts_lift (fun al mu => (ds_set 10 nd (de_fn (m := m_L_seen) h_L_seen (hr.mono (by decide)) tk (ad_cons (de_var 2) ad_nil)))))
    (tt_cons (ts_lift (fun al mu => (ds_set 11 nd de_non)))
    (tt_cons (ts_if (tb_lift (fun al mu => (db_cmp opi_eq (op_eqD hr.units) (rd (de_fn (m := fun _ => m_L_draw) h_L_draw (hr.mono (by decide)) tk (ad_cons (de_var 4) (ad_cons de_int (ad_cons de_int ad_nil))))) (rd de_int))))
    (tt_one (ts_set 11 nd (te_tup (at_cons (te_mt0 h_Credits_step (hr.mono (by decide)) tk (fun al mu => (de_var 2))) (at_cons (te_lift (fun al mu => (de_fn (m := m_L_seen) h_L_seen (hr.mono (by decide)) tk (ad_cons (de_var 2) ad_nil)))) (at_cons (te_mt0 h_Credits_back (hr.mono (by decide)) tk (fun al mu => (de_var 2))) at_nil))))))
    tt_nil)
    (tt_cons (ts_for po rfl (fun al mu => (di_list (fz (df_lst (ad_cons (de_ix (dr_var 9) (rd (de_fn (m := fun _ => m_L_draw) h_L_draw (hr.mono (by decide)) tk (ad_cons (de_var 4) (ad_cons de_int (ad_cons de_int ad_nil)))))) (ad_cons (de_op opi_add opr_add (rd (de_op opi_mul opr_mul (rd (fz (df_lst (ad_cons de_int ad_nil)))) (rd (de_op opi_sub op_sub (dr_var 1) (rd de_int))))) (rd (fz (df_lst (ad_cons de_int ad_nil))))) ad_nil)))))) (fun al mu => (dg_nm 12 nd))
    (tt_one (ts_if ((wt_or (tb_cmp (fun _ _ => opi_ne) (op_neD hr.units) (te_fn h_L_said (hr.mono (by decide)) tk (fun al mu => (ad_cons (de_var 2) (ad_cons de_int (ad_cons (de_var 12) ad_nil))))) (fun al mu => (rd de_int))) (wt_or1 (tb_lift (fun al mu => (db_cmp opi_ne (op_neD hr.units) (rd (de_fn (m := m_L_seen) h_L_seen (hr.mono (by decide)) tk (ad_cons (de_var 2) ad_nil))) (dr_var 10))))))).pt
    (tt_one (ts_lift (fun al mu => (ds_ret de_bl))))
    tt_nil)))
    (tt_cons (ts_if ((wt_and (tb_lift (fun al mu => (db_cmp opi_notN op_notN (dr_var 11) (rd de_non)))) (wt_and1 (tb_cmp (fun _ _ => opi_ne) (op_neD hr.units) (te_tup (at_cons (te_mt0 h_Credits_step (hr.mono (by decide)) tk (fun al mu => (de_var 2))) (at_cons (te_lift (fun al mu => (de_fn (m := m_L_seen) h_L_seen (hr.mono (by decide)) tk (ad_cons (de_var 2) ad_nil)))) (at_cons (te_mt0 h_Credits_back (hr.mono (by decide)) tk (fun al mu => (de_var 2))) at_nil)))) (fun al mu => (dr_var 11)))))).pt
    (tt_one (ts_lift (fun al mu => (ds_ret de_bl))))
    tt_nil)
    (tt_one (ts_lift (fun al mu => (ds_if (db_cmp opi_ne (op_neD hr.units) (rd (de_fn (m := m_L_seen) h_L_seen (hr.mono (by decide)) tk (ad_cons (de_var 2) ad_nil))) (dr_var 10))
    (ss_one (ds_ret de_bl))
    ss_nil))))))))))))))
    (tt_cons (ts_for po rfl (fun al mu => (di_rng1 T.b_range (ad_cons (de_op opi_add opr_add (rd (de_callB ci_len call_len T.b_len (ar_cons (dr_cv 3) ar_nil))) (rd de_int)) ad_nil))) (fun al mu => (dg_nm 13 nd))
    (tt_one (ts_if (tb_not (tb_val (te_fn h_L_back (hr.mono (by decide)) tk (fun al mu => (ad_cons (de_var 2) (ad_cons (de_var 3) ad_nil))))))
    (tt_one (ts_lift (fun al mu => (ds_ret de_bl))))
    tt_nil)))
    (tt_one (ts_ret (te_and (te_fn h_L_none_made (hr.mono (by decide)) tk (fun al mu => (ad_cons (de_var 2) (ad_cons (de_var 1) ad_nil)))) (te_and (te_lift (fun al mu => (de_cmp opi_eq (op_eqD hr.units) (rd (de_mt0 (m := m_Credits_told) h_Credits_told.r (hr.mono (by decide)) tk (de_var 2))) (rd (fz (df_lst ad_nil)))))) (te_one (te_lift (fun al mu => (de_cmp opi_eq (op_eqD hr.units) (rd (de_mt0 (m := m_Credits_owing) h_Credits_owing.r (hr.mono (by decide)) tk (de_var 2))) (rd (de_op opi_mul opr_mul (rd (fz (df_lst (ad_cons (de_tup (ad_cons de_int (ad_cons de_int ad_nil))) ad_nil)))) (dr_var 1))))))))))))))))
end
end DL

namespace DL
open PySem PySem.Spec PyProof.Rows L2

/-! ### cells and draws -/
theorem log2_small {n k : Nat} (h : n < 2 ^ k) (hk : 0 < k) : n.log2 < k := by
  by_cases z : n = 0
  · subst z
    exact hk
  · exact (Nat.log2_lt z).mpr h
theorem fdiv_small {a b : Int} (hb : 0 < b) (h : b ≤ 1000000) : D.fdiv (.int a) (.int b) = some (.int (a / b)) := by
  show (if 0 < b ∧ b.natAbs.log2 < 9000 then _ else none) = _
  rw [if_pos ⟨hb, Nat.lt_of_lt_of_le (log2_small (k := 30) (by omega) (by omega)) (by omega)⟩]
theorem mod_small {a b : Int} (hb : 0 < b) : D.mod (.int a) (.int b) = some (.int (a % b)) := by
  show (if 0 < b then _ else none) = _
  rw [if_pos hb]
theorem mul_small {a b : Int} (ha : a.natAbs < 2 ^ 90) (hb : b.natAbs < 2 ^ 90) : D.mul (.int a) (.int b) = some (.int (a * b)) := by
  show (if a.natAbs.log2 + b.natAbs.log2 < 1000000 then _ else none) = _
  have h1 := log2_small ha (by omega)
  have h2 := log2_small hb (by omega)
  rw [if_pos (by omega)]
theorem v_cell (ns : List Int) {k : Int} (h : 0 ≤ k) : ∃ c, m_L_cell_at [scr ns, .int k] = .ok (.int c) := by
  have e0 : gLen [scr ns] = some (.int ns.length) := by simp [gLen, scr, D.items]
  by_cases c : k < ns.length
  · have e := item_scr (xs := ns) h (by omega)
    exact ⟨ns.getD k.toNat 0, by simp only [m_L_cell_at, g_L_cell_at]; simp [e0, c, e]⟩
  · exact ⟨0, by simp [m_L_cell_at, e0, c]⟩
theorem draw_loop {c k b : Int} (hb : 0 < b) (hb2 : b ≤ 1000000) : ∀ (xs : List Int) (l : Int) (x : Option Sl), ∃ l' x',
    fl (gNm 4) (sSet 3 (eBin D.fdiv (eRd 3) (eRd 2))) (xs.map D.int) [some (.sh (.int c)), some (.sh (.int k)), some (.sh (.int b)), some (.sh (.int l)), x, none]
      = .nx [some (.sh (.int c)), some (.sh (.int k)), some (.sh (.int b)), some (.sh (.int l')), x', none]
  | [], l, x => ⟨l, x, rfl⟩
  | y :: ys, l, x => by
    obtain ⟨l', x', e⟩ := draw_loop (c := c) (k := k) hb hb2 ys (l / b) (some (.sh (.int y)))
    refine ⟨l', x', ?_⟩
    have e1 : D.fdiv (.int l) (.int b) = _ := fdiv_small hb hb2
    rw [List.map_cons, fl]
    simp only [a_nm, List.set, a_set, a_bin, a_rd, List.getElem?_cons_zero, List.getElem?_cons_succ, bind_ok, e1, opt_some]
    exact e
theorem rngD_map (lo : Int) (n : Nat) : rngD lo n = ((List.range n).map fun i : Nat => lo + (i : Int)).map D.int := by
  unfold rngD
  rw [List.map_map]
  rfl
theorem v_draw (c : Int) {k b : Int} (h0 : 0 ≤ k) (h1 : k ≤ 1000) (hb : 0 < b) (hb2 : b ≤ 1000000) : ∃ r, 0 ≤ r ∧ r < b ∧ m_L_draw [.int c, .int k, .int b] = .ok (.int r) := by
  have e10 : D.pow (.int 10) (.int 18) = some (.int 1000000000000000000) := rfl
  by_cases g : (1000000000000000000 : Int) ≤ c
  · obtain ⟨l', x', e⟩ := draw_loop (c := c) (k := k) hb hb2 ((List.range k.toNat).map fun i : Nat => 0 + (i : Int)) c none
    rw [← rngD_map] at e
    have r0 : rngOk k = true := by unfold rngOk; simp; omega
    have e1 : D.mod (.int l') (.int b) = _ := mod_small hb
    refine ⟨l' % b, Int.emod_nonneg _ (by omega), Int.emod_lt_of_pos _ hb, ?_⟩
    simp [m_L_draw, e10, g, iR, r0, e, e1]
  · have m1 : D.mod (.int c) (.int 1000000007) = _ := mod_small (by decide)
    have b1 := Int.emod_nonneg c (show (1000000007 : Int) ≠ 0 by decide)
    have b2 := Int.emod_lt_of_pos c (show (0 : Int) < 1000000007 by decide)
    have m2 : D.mul (.int 1009) (.int k) = _ := mul_small (by decide) (by omega)
    have m3 : D.mul (.int (c % 1000000007 + 1009 * k + 17)) (.int 69621) = _ := mul_small (by omega) (by decide)
    have m4 : D.mod (.int ((c % 1000000007 + 1009 * k + 17) * 69621)) (.int 2147483647) = _ := mod_small (by decide)
    generalize hs : (c % 1000000007 + 1009 * k + 17) * 69621 % 2147483647 = s at m4
    have s1 : 0 ≤ s := by rw [← hs]; exact Int.emod_nonneg _ (by decide)
    have s2 : s < 2147483647 := by rw [← hs]; exact Int.emod_lt_of_pos _ (by decide)
    have m5 : D.mul (.int s) (.int s) = _ := mul_small (by omega) (by omega)
    have m6 : D.mul (.int 40503) (.int k) = _ := mul_small (by decide) (by omega)
    have m7 : D.mod (.int (s * s + 40503 * k + 5)) (.int 2147483629) = _ := mod_small (by decide)
    generalize ht : (s * s + 40503 * k + 5) % 2147483629 = t at m7
    have t1 : 0 ≤ t := by rw [← ht]; exact Int.emod_nonneg _ (by decide)
    have t2 : t < 2147483629 := by rw [← ht]; exact Int.emod_lt_of_pos _ (by decide)
    have m8 : D.mul (.int t) (.int 48271) = _ := mul_small (by omega) (by decide)
    have m9 : D.mod (.int (t * 48271)) (.int 2147483647) = _ := mod_small (by decide)
    have m10 : D.fdiv (.int (t * 48271 % 2147483647)) (.int 32) = _ := fdiv_small (by decide) (by decide)
    have m11 : D.mod (.int (t * 48271 % 2147483647 / 32)) (.int b) = _ := mod_small hb
    refine ⟨t * 48271 % 2147483647 / 32 % b, Int.emod_nonneg _ (by omega), Int.emod_lt_of_pos _ hb, ?_⟩
    simp [m_L_draw, e10, g, m1, m2, m3, m4, m5, m6, m7, m8, m9, m10, m11]
end DL

namespace DL
open PySem PySem.Spec PyProof.Rows L2
open Fr

theorem log2_lt' {n k : Nat} (h : n < 2 ^ k) (hk : 0 < k) : n.log2 < k := by
  by_cases z : n = 0
  · subst z; exact hk
  · exact (Nat.log2_lt z).mpr h
theorem fdiv_ok {a b : Int} (hb : 0 < b) (h : b.natAbs < 2 ^ 8000) : D.fdiv (.int a) (.int b) = some (.int (a / b)) := by
  show (if 0 < b ∧ b.natAbs.log2 < 9000 then _ else none) = _
  rw [if_pos ⟨hb, Nat.lt_of_lt_of_le (log2_lt' h (by omega)) (by omega)⟩]
theorem mod_ok {a b : Int} (hb : 0 < b) : D.mod (.int a) (.int b) = some (.int (a % b)) := by
  show (if 0 < b then _ else none) = _
  rw [if_pos hb]
theorem mul_ok {a b : Int} (ha : a.natAbs < 2 ^ 8000) (hb : b.natAbs < 2 ^ 8000) : D.mul (.int a) (.int b) = some (.int (a * b)) := by
  show (if a.natAbs.log2 + b.natAbs.log2 < 1000000 then _ else none) = _
  have h1 := log2_lt' ha (by omega)
  have h2 := log2_lt' hb (by omega)
  rw [if_pos (by omega)]
theorem pow_mono {a b : Nat} (h : a ≤ b) : 2 ^ a ≤ 2 ^ b := Nat.pow_le_pow_right (by omega) h

/-! ### the greatest common divisor -/
theorem abs_gcd (a : Int) : (if a < 0 then -a else a) = ((a.natAbs : Nat) : Int) := by split <;> omega
theorem euclid (y : Nat) : ∀ (x n : Nat), y < n → wl (bV (eBin D.gt (eRd 1) (eC (.int 0)))) (sPar 0 1 (aCons (eVar 1) (aCons (eBin D.mod (eRd 0) (eRd 1)) aNil))) n [some (.sh (.int (x : Int))), some (.sh (.int (y : Int)))] = .nx [some (.sh (.int (Nat.gcd x y : Nat))), some (.sh (.int 0))] := by
  induction y using Nat.strongRecOn with
  | ind y ih =>
    intro x n hn
    obtain ⟨m, rfl⟩ : ∃ m, n = m + 1 := ⟨n - 1, by omega⟩
    have ec : (bV (eBin D.gt (eRd 1) (eC (.int 0)))) [some (.sh (.int (x : Int))), some (.sh (.int (y : Int)))] = .ok (decide ((0 : Int) < y)) := by
      simp only [a_bV, a_bin, a_rd, a_c, List.getElem?_cons_zero, List.getElem?_cons_succ, bind_ok, opt_some, p_cmp, asB_bl]
    by_cases z : y = 0
    · subst z
      rw [wl, ec]
      simp
    · have hy : (0 : Int) < y := by omega
      have em : D.mod (.int (x : Int)) (.int (y : Int)) = some (.int ((x % y : Nat) : Int)) := by rw [mod_ok hy]; rfl
      have eb : (sPar 0 1 (aCons (eVar 1) (aCons (eBin D.mod (eRd 0) (eRd 1)) aNil))) [some (.sh (.int (x : Int))), some (.sh (.int (y : Int)))] = .nx [some (.sh (.int (y : Int))), some (.sh (.int ((x % y : Nat) : Int)))] := by
        simp only [a_par, a_cons, a_nil, a_var, a_bin, a_rd, List.getElem?_cons_zero, List.getElem?_cons_succ, bind_ok, opt_some, em, List.set]
      have hlt := Nat.mod_lt x (show y > 0 by omega)
      rw [wl, ec, decide_eq_true hy]
      simp only [eb]
      rw [ih (x % y) hlt y m (by omega)]
      congr 6
      rw [Nat.gcd_comm x y, Nat.gcd_rec y x, Nat.gcd_comm]
theorem v_common (a b : Int) : m_common [.int a, .int b] = .ok (.int (Int.gcd a b)) := by
  have e := euclid b.natAbs a.natAbs (b.natAbs + 1) (by omega)
  have mu : muOne [some (.sh (.int ((a.natAbs : Nat) : Int))), some (.sh (.int ((b.natAbs : Nat) : Int)))] 1 = b.natAbs + 1 := by
    show ((b.natAbs : Nat) : Int).toNat + 1 = _
    rw [Int.toNat_natCast]
  simp only [m_common, g_common, a_runD, a_start, a_seq, a_set, a_while, mu_common_0, List.map_cons, List.map_nil, List.length_cons, List.length_nil, List.cons_append, List.nil_append, List.replicate, List.append_nil, List.set, Nat.reduceAdd, Nat.reduceSub, if_true, a_call, a_cons, a_nil, a_rd, List.getElem?_cons_zero, List.getElem?_cons_succ, bind_ok, opt_some, gAbs, abs_gcd, mu, e, a_retO, out_rs]
  rfl
theorem v_made {n d : Int} (h : 0 < d) (hd : d.natAbs < 2 ^ 8000) : m_made [.int n, .int d] = .ok (.tup [.int (low n d).1, .int (low n d).2]) := by
  have g0 := gcd_pos (n := n) h
  have gd : (Int.gcd n d : Int) ≤ d := Int.le_of_dvd h (Int.gcd_dvd_right ..)
  have e0 : D.eq (.int d) (.int 0) = some (.bl false) := by rw [eq_int, decide_eq_false (by omega)]
  have e1 : decide (d < 0) = false := decide_eq_false (by omega)
  have f1 : D.fdiv (.int n) (.int (Int.gcd n d : Int)) = _ := fdiv_ok (by omega) (by omega)
  have f2 : D.fdiv (.int d) (.int (Int.gcd n d : Int)) = _ := fdiv_ok (by omega) (by omega)
  have l2 : lim 2 = true := rfl
  simp only [m_made, g_made, a_runD, a_start, a_seq, a_sIf, a_bV, a_set, List.map_cons, List.map_nil, List.length_cons, List.length_nil, List.cons_append, List.nil_append, List.replicate, List.append_nil, List.set, Nat.reduceAdd, Nat.reduceSub, if_true, a_fn, a_bin, a_c, a_var, a_cons, a_nil, a_rd, List.getElem?_cons_zero, List.getElem?_cons_succ, bind_ok, opt_some, e0, asB_bl, a_snil, v_common, p_cmp, e1, a_ret, a_tup, f1, f2, l2, out_rs]
  rfl
/-- a fraction, however its pair came about -/
def IsFr (d : D) (p : P) : Prop := d = .tup [.int p.1, .int p.2] ∨ d = .ctp [.int p.1, .int p.2]
theorem IsFr.i0 {d : D} {p : P} (h : IsFr d p) : D.item d (.int 0) = some (.int p.1) := by rcases h with rfl | rfl <;> rfl
theorem IsFr.i1 {d : D} {p : P} (h : IsFr d p) : D.item d (.int 1) = some (.int p.2) := by rcases h with rfl | rfl <;> rfl
theorem v_plus {x y : D} {p q : P} (hx : IsFr x p) (hy : IsFr y q) (h1 : 0 < p.2) (h2 : 0 < q.2) (b1 : p.1.natAbs < 2 ^ 1000) (b2 : p.2.natAbs < 2 ^ 1000) (b3 : q.1.natAbs < 2 ^ 1000) (b4 : q.2.natAbs < 2 ^ 1000) :
    m_plus [x, y] = .ok (.tup [.int (low (p.1 * q.2 + q.1 * p.2) (p.2 * q.2)).1, .int (low (p.1 * q.2 + q.1 * p.2) (p.2 * q.2)).2]) := by
  have big : (2 : Nat) ^ 1000 ≤ 2 ^ 8000 := pow_mono (by omega)
  have m1 : D.mul (.int p.1) (.int q.2) = _ := mul_ok (by omega) (by omega)
  have m2 : D.mul (.int q.1) (.int p.2) = _ := mul_ok (by omega) (by omega)
  have m3 : D.mul (.int p.2) (.int q.2) = _ := mul_ok (by omega) (by omega)
  have b5 : (p.2 * q.2).natAbs < 2 ^ 8000 := by
    rw [Int.natAbs_mul]
    have : p.2.natAbs * q.2.natAbs < 2 ^ 1000 * 2 ^ 1000 := Nat.mul_lt_mul'' b2 b4
    rw [← Nat.pow_add] at this
    exact Nat.lt_of_lt_of_le this (pow_mono (by omega))
  simp only [m_plus, g_plus, a_runD, a_start, List.map_cons, List.map_nil, List.length_cons, List.length_nil, List.cons_append, List.nil_append, List.replicate, List.append_nil, Nat.reduceAdd, Nat.reduceSub, if_true, a_ret, a_fn, a_bin, a_c, a_cons, a_nil, a_rd, List.getElem?_cons_zero, List.getElem?_cons_succ, bind_ok, opt_some, hx.i0, hx.i1, hy.i0, hy.i1, m1, m2, m3, p_add, v_made (Int.mul_pos h1 h2) b5, out_rs]
theorem v_minus1 {x : D} {p : P} (hx : IsFr x p) (h1 : 0 < p.2) (b1 : p.1.natAbs < 2 ^ 1000) (b2 : p.2.natAbs < 2 ^ 1000) (hc : Int.gcd p.1 p.2 = 1) :
    m_minus [x, .tup [.int 1, .int 1]] = .ok (.tup [.int (p.1 - p.2), .int p.2]) := by
  have big : (2 : Nat) ^ 1000 ≤ 2 ^ 8000 := pow_mono (by omega)
  have one : (1 : Int).natAbs < 2 ^ 8000 := Nat.lt_of_lt_of_le (show (1 : Nat) < 2 ^ 1 by decide) (pow_mono (by omega))
  have m1 : D.mul (.int p.1) (.int 1) = some (.int p.1) := by rw [mul_ok (by omega) one, Int.mul_one]
  have m2 : D.mul (.int 1) (.int p.2) = some (.int p.2) := by rw [mul_ok one (by omega), Int.one_mul]
  have m3 : D.mul (.int p.2) (.int 1) = some (.int p.2) := by rw [mul_ok (by omega) one, Int.mul_one]
  have vm := v_made (n := p.1 - p.2) h1 (Nat.lt_of_lt_of_le b2 big)
  rw [low_id (cop_sub hc)] at vm
  have i0 : D.item (.tup [.int 1, .int 1]) (.int 0) = some (.int 1) := rfl
  have i1 : D.item (.tup [.int 1, .int 1]) (.int 1) = some (.int 1) := rfl
  simp only [m_minus, g_minus, a_runD, a_start, List.map_cons, List.map_nil, List.length_cons, List.length_nil, List.cons_append, List.nil_append, List.replicate, List.append_nil, Nat.reduceAdd, Nat.reduceSub, if_true, a_ret, a_fn, a_bin, a_c, a_cons, a_nil, a_rd, List.getElem?_cons_zero, List.getElem?_cons_succ, bind_ok, opt_some, hx.i0, hx.i1, i0, i1, m1, m2, m3, p_sub, vm, out_rs]
theorem v_less {x y : D} {p q : P} (hx : IsFr x p) (hy : IsFr y q) (b1 : p.1.natAbs < 2 ^ 1000) (b2 : p.2.natAbs < 2 ^ 1000) (b3 : q.1.natAbs < 2 ^ 1000) (b4 : q.2.natAbs < 2 ^ 1000) : m_less [x, y] = .ok (.bl (lt p q)) := by
  have big : (2 : Nat) ^ 1000 ≤ 2 ^ 8000 := pow_mono (by omega)
  have m1 : D.mul (.int p.1) (.int q.2) = _ := mul_ok (by omega) (by omega)
  have m2 : D.mul (.int q.1) (.int p.2) = _ := mul_ok (by omega) (by omega)
  simp only [m_less, g_less, a_runD, a_start, List.map_cons, List.map_nil, List.length_cons, List.length_nil, List.cons_append, List.nil_append, List.replicate, List.append_nil, Nat.reduceAdd, Nat.reduceSub, if_true, a_ret, a_bin, a_c, a_rd, List.getElem?_cons_zero, List.getElem?_cons_succ, bind_ok, opt_some, hx.i0, hx.i1, hy.i0, hy.i1, m1, m2, p_cmp, out_rs]
  rfl
end DL

namespace DL
open PySem PySem.Spec PyProof.Rows L2
open Fr

/-! ### weights -/
structure Wt (ws : List Int) : Prop where
  l1 : 0 < ws.length
  l6 : ws.length ≤ 6
  bd : ∀ w ∈ ws, 0 ≤ w ∧ w ≤ 1000
  pos : 0 < ws.sum
theorem sum_le : ∀ ws : List Int, (∀ w ∈ ws, 0 ≤ w ∧ w ≤ 1000) → 0 ≤ ws.sum ∧ ws.sum ≤ 1000 * ws.length
  | [], _ => by simp
  | w :: ws, h => by
    have := sum_le ws fun x hx => h x (List.mem_cons_of_mem _ hx)
    have := h w (List.mem_cons_self ..)
    simp only [List.sum_cons, List.length_cons]
    push_cast
    omega
theorem Wt.le {ws : List Int} (h : Wt ws) : ws.sum ≤ 6000 := by
  have := sum_le ws h.bd
  have := h.l6
  omega
theorem sumA_intL (ws : List Int) : gSumA [intL ws] = some (.int ws.sum) := by
  show ((intsD (ws.map D.int)).map fun ns => D.int ns.sum) = _
  rw [intsD_map]
  rfl
theorem weights_loop {d0 : Sl} : ∀ (ws : List Int) (x : Option Sl), (∀ w ∈ ws, 0 ≤ w ∧ w ≤ 1000) → ∃ x', fl (gNm 1) (sIf (bOr (bNot (bV (eFn m_is_whole (aCons (eVar 1) aNil)))) (bNot (bV (eChain D.le D.le (eC (.int 0)) (eRd 1) (eC (.int 1000))))))
    (sRet (eC (.bl false)))
    sNil) (ws.map D.int) [some d0, x] = .nx [some d0, x']
  | [], x, _ => ⟨x, rfl⟩
  | w :: ws, x, h => by
    obtain ⟨x', e⟩ := weights_loop (d0 := d0) ws (some (.sh (.int w))) fun y hy => h y (List.mem_cons_of_mem _ hy)
    refine ⟨x', ?_⟩
    obtain ⟨h0, h1⟩ := h w (List.mem_cons_self ..)
    have ew : m_is_whole [.int w] = .ok (.bl true) := rfl
    rw [List.map_cons, fl]
    simp only [a_nm, List.set, a_sIf, a_bOr, a_bNot, a_bV, a_fn, a_cons, a_nil, a_var, a_chain, a_rd, a_c, List.getElem?_cons_zero, List.getElem?_cons_succ, bind_ok, opt_some, ew, asB_bl, Bool.not_true, Bool.false_eq_true, if_false, p_cmp, decide_eq_true h0, decide_eq_true h1, if_true, a_snil]
    exact e
theorem v_are_weights {ws : List Int} (h : Wt ws) : m_are_weights [intL ws] = .ok (.bl true) := by
  obtain ⟨x', e⟩ := weights_loop (d0 := .sh (intL ws)) ws none h.bd
  have t1 : (intL ws).ty = some "list" := rfl
  have t2 : isiB "list" "list" = true := rfl
  have c1 : decide ((1 : Int) ≤ ws.length) = true := decide_eq_true (by have := h.l1; omega)
  have c2 : decide ((ws.length : Int) ≤ 6) = true := decide_eq_true (by have := h.l6; omega)
  have c3 : decide ((0 : Int) < ws.sum) = true := decide_eq_true h.pos
  simp only [m_are_weights, g_are_weights, a_runD, a_start, a_seq, a_sIf, a_bOr, a_bNot, a_bV, a_isi, a_for, a_iL, List.map_cons, List.map_nil, List.length_cons, List.length_nil, List.cons_append, List.nil_append, List.replicate, List.set, Nat.reduceAdd, Nat.reduceSub, if_true, a_chain, a_call, a_c, a_cons, a_nil, a_rd, a_var, List.getElem?_cons_zero, List.getElem?_cons_succ, bind_ok, opt_some, t1, t2, Option.map_some, asB_bl, Bool.not_true, Bool.false_eq_true, if_false, p_len, p_cmp, c1, c2, a_snil, e, a_ret, a_bin, sumA_intL, c3, out_rs]
theorem v_weight (c : Int) {k : Int} (h0 : 0 ≤ k) (h1 : k ≤ 900) : ∃ w, 0 ≤ w ∧ w ≤ 1000 ∧ m_L_weight [.int c, .int k] = .ok (.int w) := by
  obtain ⟨r, r0, r1, e1⟩ := v_draw c (k := k) (b := 9) h0 (by omega) (by decide) (by decide)
  obtain ⟨a, a0, a1, e2⟩ := v_draw c (k := k + 40) (b := 30) (by omega) (by omega) (by decide) (by decide)
  obtain ⟨b, b0, b1, e3⟩ := v_draw c (k := k + 41) (b := 1001) (by omega) (by omega) (by decide) (by decide)
  have l9 : lim 9 = true := rfl
  have it : ∃ w, 0 ≤ w ∧ w ≤ 1000 ∧ D.item (.lst [.int 0, .int 1, .int 1, .int 2, .int 3, .int 5, .int 7, .int (1 + a), .int b]) (.int r) = some (.int w) := by
    have : r = 0 ∨ r = 1 ∨ r = 2 ∨ r = 3 ∨ r = 4 ∨ r = 5 ∨ r = 6 ∨ r = 7 ∨ r = 8 := by omega
    rcases this with h | h | h | h | h | h | h | h | h <;> subst h
    · exact ⟨0, by decide, by decide, rfl⟩
    · exact ⟨1, by decide, by decide, rfl⟩
    · exact ⟨1, by decide, by decide, rfl⟩
    · exact ⟨2, by decide, by decide, rfl⟩
    · exact ⟨3, by decide, by decide, rfl⟩
    · exact ⟨5, by decide, by decide, rfl⟩
    · exact ⟨7, by decide, by decide, rfl⟩
    · exact ⟨1 + a, by omega, by omega, rfl⟩
    · exact ⟨b, by omega, by omega, rfl⟩
  obtain ⟨w, w0, w1, e4⟩ := it
  refine ⟨w, w0, w1, ?_⟩
  simp only [m_L_weight, g_L_weight, a_runD, a_start, a_seq, a_set, List.map_cons, List.map_nil, List.length_cons, List.length_nil, List.cons_append, List.nil_append, List.replicate, List.set, Nat.reduceAdd, Nat.reduceSub, if_true, a_fn, a_c, a_cons, a_nil, a_rd, a_var, a_bin, a_lst, List.getElem?_cons_zero, List.getElem?_cons_succ, bind_ok, opt_some, p_add, e1, e2, e3, l9, e4, a_ret, out_rs]
theorem weights_lc {c n : Int} {y : Option Sl} : ∀ ks : List Int, (∀ k ∈ ks, 0 ≤ k ∧ k ≤ 900) → ∃ ws : List Int, ws.length = ks.length ∧ (∀ w ∈ ws, 0 ≤ w ∧ w ≤ 1000) ∧
    lcGo (gNm 3) bYes (eFn m_L_weight (aCons (eVar 0) (aCons (eVar 3) aNil))) [some (.sh (.int c)), some (.sh (.int n)), y, none] (ks.map D.int) = .ok (ws.map D.int)
  | [], _ => ⟨[], rfl, (fun w h => by cases h), rfl⟩
  | k :: ks, h => by
    obtain ⟨ws, h1, h2, h3⟩ := weights_lc (c := c) (n := n) (y := y) ks fun k hk => h k (List.mem_cons_of_mem _ hk)
    obtain ⟨w, w0, w1, e⟩ := v_weight c (h k (List.mem_cons_self ..)).1 (h k (List.mem_cons_self ..)).2
    refine ⟨w :: ws, by simp [h1], fun x hx => ?_, ?_⟩
    · rcases List.mem_cons.mp hx with q | q
      · rw [q]; exact ⟨w0, w1⟩
      · exact h2 x q
    · rw [List.map_cons, lcGo]
      simp only [a_nm, List.set, a_bYes, a_fn, a_cons, a_nil, a_var, List.getElem?_cons_zero, List.getElem?_cons_succ, bind_ok, e, h3, List.map_cons]
theorem sum_set {ws : List Int} (hz : ∀ w ∈ ws, 0 ≤ w) {i : Nat} (hi : i < ws.length) : 0 < (ws.set i 1).sum := by
  induction ws generalizing i with
  | nil => simp at hi
  | cons w ws ih =>
    have nn : ∀ xs : List Int, (∀ w ∈ xs, 0 ≤ w) → 0 ≤ xs.sum := fun xs h => by
      induction xs with
      | nil => simp
      | cons x xs ih =>
        have := ih fun y hy => h y (List.mem_cons_of_mem _ hy)
        have := h x (List.mem_cons_self ..)
        simp only [List.sum_cons]; omega
    cases i with
    | zero =>
      have := nn ws fun y hy => hz y (List.mem_cons_of_mem _ hy)
      simp only [List.set_cons_zero, List.sum_cons]; omega
    | succ i =>
      have := ih (fun y hy => hz y (List.mem_cons_of_mem _ hy)) (i := i) (by simpa using hi)
      have := hz w (List.mem_cons_self ..)
      simp only [List.set_cons_succ, List.sum_cons]; omega
theorem v_weights (c : Int) {n : Int} (h0 : 1 ≤ n) (h1 : n ≤ 6) : ∃ ws, (ws.length : Int) = n ∧ Wt ws ∧ m_L_weights [.int c, .int n] = .ok (intL ws) := by
  obtain ⟨ws, l, b, e⟩ := weights_lc (c := c) (n := n) (y := none) ((List.range n.toNat).map fun i : Nat => 0 + (i : Int)) fun k hk => by
    obtain ⟨i, hi, rfl⟩ := List.mem_map.mp hk
    have := List.mem_range.mp hi
    omega
  rw [← rngD_map] at e
  rw [List.length_map, List.length_range] at l
  have r0 : rngOk n = true := by unfold rngOk; simp; omega
  have ll : lim (rngD 0 n.toNat).length = true := decide_eq_true (by rw [rngD_map]; simp; omega)
  obtain ⟨s0, _⟩ := sum_le ws b
  obtain ⟨d, d0, d1, ed⟩ := v_draw c (k := 9) (b := n) (by decide) (by decide) (by omega) (by omega)
  by_cases z : ws.sum = 0
  · have q0 : decide (ws.sum = 0) = true := decide_eq_true z
    have ix : ixN (ws.map D.int).length d = some d.toNat := by
      unfold ixN
      rw [if_pos d0, if_pos (by simp; omega)]
    have es : (D.lst ((ws.map D.int).set d.toNat (.int 1))) = intL (ws.set d.toNat 1) := by simp [List.map_set]
    refine ⟨ws.set d.toNat 1, by simp; omega, ⟨by simp; omega, by simp; omega, fun w hw => ?_, sum_set (fun w hw => (b w hw).1) (by omega)⟩, ?_⟩
    · rcases List.mem_or_eq_of_mem_set hw with q | q
      · exact b w q
      · omega
    · simp only [m_L_weights, g_L_weights, a_runD, a_start, a_seq, a_setF, a_lc, iR, List.map_cons, List.map_nil, List.length_cons, List.length_nil, List.cons_append, List.nil_append, List.replicate, List.set, Nat.reduceAdd, Nat.reduceSub, if_true, a_fn, a_c, a_cons, a_nil, a_rd, a_var, a_bin, a_call, a_wipe, a_wipe0, List.getElem?_cons_zero, List.getElem?_cons_succ, bind_ok, opt_some, r0, ll, e, a_sIf, a_bV, sumA_intL, p_eqi, q0, asB_bl, a_put, a_owL, ed, ix, es, a_retO, out_ro]
  · have q0 : decide (ws.sum = 0) = false := decide_eq_false z
    refine ⟨ws, by omega, ⟨by omega, by omega, b, by omega⟩, ?_⟩
    simp only [m_L_weights, g_L_weights, a_runD, a_start, a_seq, a_setF, a_lc, iR, List.map_cons, List.map_nil, List.length_cons, List.length_nil, List.cons_append, List.nil_append, List.replicate, List.set, Nat.reduceAdd, Nat.reduceSub, if_true, a_fn, a_c, a_cons, a_nil, a_rd, a_var, a_bin, a_call, a_wipe, a_wipe0, List.getElem?_cons_zero, List.getElem?_cons_succ, bind_ok, opt_some, r0, ll, e, a_sIf, a_bV, sumA_intL, p_eqi, q0, asB_bl, a_snil, a_retO, out_ro]
end DL

namespace DL
open PySem PySem.Spec PyProof.Rows L2
open Fr

/-! ### a step, told by the law -/
abbrev fr (p : P) : D := .tup [.int p.1, .int p.2]
theorem fr_is (p : P) : IsFr (fr p) p := .inl rfl
def Big (gs : List P) : Prop := ∀ p ∈ gs, p.1.natAbs < 2 ^ 1000 ∧ p.2.natAbs < 2 ^ 1000
theorem getD_mem {α : Type} {xs : List α} {i : Nat} {d : α} (h : i < xs.length) : xs.getD i d ∈ xs := by
  rw [List.getD_eq_getElem?_getD, List.getElem?_eq_getElem h]
  exact List.getElem_mem h
theorem item_fr {gs : List P} {j : Nat} (h : j < gs.length) : D.item (.lst (gs.map fr)) (.int (j : Int)) = some (fr (gs.getD j (0, 1))) := by
  show atI (gs.map fr) _ = _
  rw [atI_nat (by omega) (by simpa using h), Int.toNat_natCast, List.getElem?_map, List.getD_eq_getElem?_getD, List.getElem?_eq_getElem h]
  rfl
theorem rng0 (n : Nat) : rngD 0 n = (List.range n).map fun j : Nat => D.int (j : Int) := by
  unfold rngD
  refine List.map_congr_left fun i _ => ?_
  rw [Int.zero_add]
theorem rng1 (n : Nat) : rngD 1 n = (List.range' 1 n).map fun j : Nat => D.int (j : Int) := by
  unfold rngD
  rw [List.range'_eq_map_range, List.map_map]
  refine List.map_congr_left fun i _ => ?_
  show D.int (1 + (i : Int)) = D.int ((1 + i : Nat) : Int)
  congr 1
theorem zip_fr (ps : List P) (ws : List Int) : zipD (ps.map fr) (ws.map D.int) = (ps.zip ws).map fun x => D.tup [fr x.1, .int x.2] := by
  unfold zipD
  rw [List.zipWith_map]
  unfold List.zip
  rw [List.map_zipWith]
theorem mem_zip_lr {ps : List P} {ws : List Int} {x : P × Int} (h : x ∈ ps.zip ws) : x.1 ∈ ps ∧ x.2 ∈ ws := List.of_mem_zip h
structure Sta (t : Nat) (ps : List P) (ws : List Int) : Prop where
  len : ps.length = ws.length
  sm : ∀ p ∈ ps, Small t p
  wt : Wt ws
theorem grow_len {t : Nat} {ps : List P} {ws : List Int} (s : Sta t ps ws) : (grow ws.sum ps ws).length = ws.length := by
  unfold grow
  rw [List.length_map, List.length_zip, s.len, Nat.min_self]
theorem grow_mid {t : Nat} {ps : List P} {ws : List Int} (s : Sta t ps ws) : ∀ p ∈ grow ws.sum ps ws, Mid t p := fun p hp => by
  unfold grow at hp
  obtain ⟨x, hx, rfl⟩ := List.mem_map.mp hp
  obtain ⟨h1, h2⟩ := mem_zip_lr hx
  obtain ⟨b0, b1⟩ := s.wt.bd _ h2
  exact mid_low (s.sm _ h1) b0 b1 s.wt.pos s.wt.le
theorem grow_big {t : Nat} {ps : List P} {ws : List Int} (ht : t ≤ 39) (s : Sta t ps ws) : Big (grow ws.sum ps ws) := fun p hp => small_big (small_of_mid (grow_mid s p hp)) (by omega)
/-- the state behind a step -/
theorem sta_step {t : Nat} {ps : List P} {ws : List Int} (s : Sta t ps ws) : Sta (t + 1) (pay (grow ws.sum ps ws) (best (grow ws.sum ps ws))) ws := by
  have gl := grow_len s
  have bl := best_lt (gs := grow ws.sum ps ws) (by have := s.wt.l1; omega)
  refine ⟨by unfold pay; rw [List.length_set]; exact gl, fun p hp => ?_, s.wt⟩
  unfold pay at hp
  rcases List.mem_or_eq_of_mem_set hp with q | q
  · exact small_of_mid (grow_mid s p q)
  · rw [q]
    exact small_pay (grow_mid s _ (getD_mem bl))

theorem low_fr (n d : Int) : D.tup [.int (low n d).1, .int (low n d).2] = fr (low n d) := rfl
end DL

namespace DL
open PySem PySem.Spec PyProof.Rows L2
open Fr

/-! ### a keeper -/
abbrev flds (a b c d : D) : List (Str × D) := [("now", a), ("owed", b), ("row", c), ("deeds", d)]
abbrev crd (a b c d : D) : Cl := .obj "Credits" (flds a b c d)
theorem k_on : (("owed" : Str) == "now") = false := by decide +kernel
theorem k_rn : (("row" : Str) == "now") = false := by decide +kernel
theorem k_ro : (("row" : Str) == "owed") = false := by decide +kernel
theorem k_dn : (("deeds" : Str) == "now") = false := by decide +kernel
theorem k_do : (("deeds" : Str) == "owed") = false := by decide +kernel
theorem k_dr : (("deeds" : Str) == "row") = false := by decide +kernel
theorem n_no : ¬ (("now" : Str) = "owed") := by decide +kernel
theorem n_nr : ¬ (("now" : Str) = "row") := by decide +kernel
theorem n_nd : ¬ (("now" : Str) = "deeds") := by decide +kernel
theorem n_or : ¬ (("owed" : Str) = "row") := by decide +kernel
theorem n_od : ¬ (("owed" : Str) = "deeds") := by decide +kernel
theorem n_rd : ¬ (("row" : Str) = "deeds") := by decide +kernel
section
variable {a b c d v : D} {r : List (Str × D)}
theorem lk_now : List.lookup ("now" : Str) (flds a b c d) = some a := lookup_hit
theorem lk_owed : List.lookup ("owed" : Str) (flds a b c d) = some b := by rw [lookup_miss k_on]; exact lookup_hit
theorem lk_row : List.lookup ("row" : Str) (flds a b c d) = some c := by rw [lookup_miss k_rn, lookup_miss k_ro]; exact lookup_hit
theorem lk_deeds : List.lookup ("deeds" : Str) (flds a b c d) = some d := by rw [lookup_miss k_dn, lookup_miss k_do, lookup_miss k_dr]; exact lookup_hit
theorem pt_now : putD "now" v (flds a b c d) = flds v b c d := by simp only [putD, if_true]
theorem pt_owed : putD "owed" v (flds a b c d) = flds a v c d := by simp only [putD, n_no, if_false, if_true]
theorem pi_1 : putD "now" v [] = [(("now" : Str), v)] := rfl
theorem pi_2 : putD "owed" v [(("now" : Str), a)] = [(("now" : Str), a), (("owed" : Str), v)] := by simp only [putD, n_no, if_false]
theorem pi_3 : putD "row" v [(("now" : Str), a), (("owed" : Str), b)] = [(("now" : Str), a), (("owed" : Str), b), (("row" : Str), v)] := by simp only [putD, n_nr, n_or, if_false]
theorem pi_4 : putD "deeds" v [(("now" : Str), a), (("owed" : Str), b), (("row" : Str), c)] = flds a b c v := by simp only [putD, n_nd, n_od, n_rd, if_false]
end
theorem at_end {α : Type} (xs : List α) (a : α) (r : List α) : (xs ++ a :: r)[xs.length]? = some a := by
  rw [List.getElem?_append_right (Nat.le_refl _), Nat.sub_self]; rfl
theorem set_end {α : Type} (xs : List α) (a b : α) (r : List α) : (xs ++ a :: r).set xs.length b = xs ++ b :: r := by
  rw [List.set_append_right _ _ (Nat.le_refl _), Nat.sub_self]; rfl
theorem hfrees_int : ∀ ws : List Int, hfrees (ws.map D.int) = true
  | [] => rfl
  | w :: ws => by simp only [List.map_cons, hfrees, hfree, hfrees_int ws, Bool.and_self]
theorem resC_ints {mu : Tbl} {w : Nat} {ws : List Int} (h : mu[w]? = some (.lst (ws.map D.int))) : resC mu (.hdl w) = intL ws := resC_lst h
theorem resAs_ints {mu : Tbl} {w : Nat} {ws : List Int} (h : mu[w]? = some (.lst (ws.map D.int))) : resAs mu [.hdl w] = some [intL ws] := by
  unfold resAs resA
  rw [resC_ints h, if_pos (show hfree (intL ws) = true by simp only [hfree]; exact hfrees_int ws)]
  rfl
def nought (n : Nat) : List D := List.replicate n (tupI [0, 1])
end DL

namespace DL
open PySem PySem.Spec PyProof.Rows L2
open Fr

structure Frs (fs : List D) (ps : List P) : Prop where
  len : fs.length = ps.length
  is : ∀ (j : Nat) (d : D), fs[j]? = some d → IsFr d (ps.getD j (0, 1))
theorem frs_fr (ps : List P) : Frs (ps.map fr) ps := ⟨by simp, fun j d h => by
  rw [List.getElem?_map] at h
  cases e : ps[j]? with
  | none => rw [e] at h; cases h
  | some p =>
    rw [e] at h
    cases h
    rw [List.getD_eq_getElem?_getD, e]
    exact fr_is p⟩
theorem frs_nought (n : Nat) : Frs (nought n) (List.replicate n (0, 1)) := ⟨by simp [nought], fun j d h => by
  unfold nought at h
  rw [List.getElem?_replicate] at h
  split at h
  · rename_i hj
    cases h
    rw [List.getD_eq_getElem?_getD, List.getElem?_replicate, if_pos hj]
    exact .inr rfl
  · cases h⟩
/-- the keeper at h: what it owes, its weights, its row; n deeds so far -/
structure Kp (mu : Tbl) (h n : Nat) (ps : List P) (ws row : List Int) : Prop where
  ob : ∃ fs, mu[h]? = some (crd (.tup (ws.map D.int)) (.tup fs) (.hdl (h + 1)) (.hdl (h + 2))) ∧ Frs fs ps
  rw_ : mu[h + 1]? = some (.lst (row.map D.int))
  rl : row.length ≤ n
  dd : ∃ ds, mu[h + 2]? = some (.lst ds) ∧ ds.length ≤ n
/-- nothing else is changed -/
structure Only (h : Nat) (mu mu' : Tbl) : Prop where
  len : mu'.length = mu.length
  el : ∀ j, j ≠ h → j ≠ h + 1 → j ≠ h + 2 → mu'[j]? = mu[j]?
theorem Kp.keep {mu mu' : Tbl} {h h' n : Nat} {ps : List P} {ws row : List Int} (k : Kp mu h n ps ws row) (o : Only h' mu mu') (hh : h + 2 < h' ∨ h' + 2 < h) : Kp mu' h n ps ws row := by
  refine ⟨?_, ?_, k.rl, ?_⟩
  · obtain ⟨fs, h1, h2⟩ := k.ob
    exact ⟨fs, by rw [o.el h (by omega) (by omega) (by omega)]; exact h1, h2⟩
  · rw [o.el (h + 1) (by omega) (by omega) (by omega)]; exact k.rw_
  · obtain ⟨ds, h1, h2⟩ := k.dd
    exact ⟨ds, by rw [o.el (h + 2) (by omega) (by omega) (by omega)]; exact h1, h2⟩
theorem Kp.more {mu : Tbl} {h n : Nat} {ps : List P} {ws row : List Int} (k : Kp mu h n ps ws row) (r : Tbl) : Kp (mu ++ r) h n ps ws row := by
  have up : ∀ {j : Nat} {c : Cl}, mu[j]? = some c → (mu ++ r)[j]? = some c := fun {j c} e => by rw [List.getElem?_append_left (List.getElem?_eq_some_iff.mp e).1, e]
  refine ⟨?_, up k.rw_, k.rl, ?_⟩
  · obtain ⟨fs, h1, h2⟩ := k.ob
    exact ⟨fs, up h1, h2⟩
  · obtain ⟨ds, h1, h2⟩ := k.dd
    exact ⟨ds, up h1, h2⟩
theorem Kp.put {mu : Tbl} {h n j : Nat} {ps : List P} {ws row : List Int} {c : Cl} (k : Kp mu h n ps ws row) (hj : j ≠ h ∧ j ≠ h + 1 ∧ j ≠ h + 2) : Kp (mu.set j c) h n ps ws row := by
  refine ⟨?_, ?_, k.rl, ?_⟩
  · obtain ⟨fs, h1, h2⟩ := k.ob
    exact ⟨fs, by rw [List.getElem?_set_ne hj.1]; exact h1, h2⟩
  · rw [List.getElem?_set_ne hj.2.1]; exact k.rw_
  · obtain ⟨ds, h1, h2⟩ := k.dd
    exact ⟨ds, by rw [List.getElem?_set_ne hj.2.2]; exact h1, h2⟩
theorem Kp.mono {mu : Tbl} {h n m : Nat} {ps : List P} {ws row : List Int} (k : Kp mu h n ps ws row) (q : n ≤ m) : Kp mu h m ps ws row :=
  ⟨k.ob, k.rw_, Nat.le_trans k.rl q, let ⟨ds, h1, h2⟩ := k.dd; ⟨ds, h1, Nat.le_trans h2 q⟩⟩
theorem noM {x : Str} (h1 : (x == ("now" : Str)) = false) (h2 : (x == ("owed" : Str)) = false) (h3 : (x == ("row" : Str)) = false) (h4 : (x == ("deeds" : Str)) = false) (a b c d : D) : List.lookup x (flds a b c d) = none := by
  rw [lookup_miss h1, lookup_miss h2, lookup_miss h3, lookup_miss h4]; rfl
theorem canM_k {mu : Tbl} {h n : Nat} {ps : List P} {ws row : List Int} (k : Kp mu h n ps ws row) {x : Str} (hx : ∀ a b c d : D, List.lookup x (flds a b c d) = none) : canM mu "Credits" x (.hdl h) = true := by
  obtain ⟨fs, h1, _⟩ := k.ob
  unfold canM
  rw [objOf_h h1]
  show (List.lookup x (flds _ _ _ _)).isNone = true
  rw [hx]
  rfl
theorem noM_step (a b c d : D) : List.lookup ("step" : Str) (flds a b c d) = none := noM (by decide +kernel) (by decide +kernel) (by decide +kernel) (by decide +kernel) a b c d
theorem noM_change (a b c d : D) : List.lookup ("change" : Str) (flds a b c d) = none := noM (by decide +kernel) (by decide +kernel) (by decide +kernel) (by decide +kernel) a b c d
theorem noM_owing (a b c d : D) : List.lookup ("owing" : Str) (flds a b c d) = none := noM (by decide +kernel) (by decide +kernel) (by decide +kernel) (by decide +kernel) a b c d
theorem noM_told (a b c d : D) : List.lookup ("told" : Str) (flds a b c d) = none := noM (by decide +kernel) (by decide +kernel) (by decide +kernel) (by decide +kernel) a b c d
theorem noM_weights (a b c d : D) : List.lookup ("weights" : Str) (flds a b c d) = none := noM (by decide +kernel) (by decide +kernel) (by decide +kernel) (by decide +kernel) a b c d

/-! ### a step of the keeper -/
abbrev prgBody : Sto → Res := sIf (bV (eFn m_less (aCons (eBin D.item (eRd 2) (eRd 4)) (aCons (eBin D.item (eRd 2) (eRd 3)) aNil)))) (sSet 4 (eVar 3)) sNil
theorem prgbest_loop {s0 s1 : Option Sl} {gs : List P} (big : Big gs) : ∀ (js : List Nat) (c : Nat) (x : Option Sl), c < gs.length → (∀ j ∈ js, j < gs.length) → ∃ x',
    fl (gNm 3) prgBody (js.map fun j : Nat => D.int (j : Int)) [s0, s1, some (.ow (.lst (gs.map fr))), x, some (.sh (.int (c : Int)))] = .nx [s0, s1, some (.ow (.lst (gs.map fr))), x', some (.sh (.int ((js.foldl (pick gs) c : Nat) : Int)))]
  | [], c, x, _, _ => ⟨x, rfl⟩
  | j :: js, c, x, hc, hj => by
    have j0 := hj j (List.mem_cons_self ..)
    obtain ⟨x', e⟩ := prgbest_loop (s0 := s0) (s1 := s1) big js (pick gs c j) (some (.sh (.int (j : Int)))) (pick_lt hc j0) fun k hk => hj k (List.mem_cons_of_mem _ hk)
    refine ⟨x', ?_⟩
    obtain ⟨a1, a2⟩ := big _ (getD_mem (d := (0, 1)) hc)
    obtain ⟨b1, b2⟩ := big _ (getD_mem (d := (0, 1)) j0)
    have ej := item_fr j0
    have ec := item_fr hc
    have vl := v_less (fr_is (gs.getD c (0, 1))) (fr_is (gs.getD j (0, 1))) a1 a2 b1 b2
    have et : bV (eFn m_less (aCons (eBin D.item (eRd 2) (eRd 4)) (aCons (eBin D.item (eRd 2) (eRd 3)) aNil))) [s0, s1, some (.ow (.lst (gs.map fr))), some (.sh (.int (j : Int))), some (.sh (.int (c : Int)))] = .ok (lt (gs.getD c (0, 1)) (gs.getD j (0, 1))) := by
      simp only [a_bV, a_fn, a_cons, a_nil, a_bin, a_rd, List.getElem?_cons_zero, List.getElem?_cons_succ, bind_ok, opt_some, ej, ec, vl, asB_bl]
    rw [List.map_cons, fl]
    simp only [a_nm, List.set]
    rw [List.foldl_cons]
    rw [show prgBody = sIf _ _ _ from rfl, a_sIf, et]
    by_cases q : lt (gs.getD c (0, 1)) (gs.getD j (0, 1)) = true
    · have pk : pick gs c j = j := by unfold pick; rw [if_pos q]
      rw [pk] at e ⊢
      rw [q]
      simp only [a_set, a_var, List.getElem?_cons_zero, List.getElem?_cons_succ, List.set]
      exact e
    · have pk : pick gs c j = c := by unfold pick; rw [if_neg q]
      rw [pk] at e ⊢
      rw [Bool.not_eq_true] at q
      rw [q]
      simp only [a_snil]
      exact e
theorem grow_at {W : Int} {ps : List P} {ws : List Int} (hl : ps.length = ws.length) {j : Nat} (hj : j < ws.length) : (grow W ps ws).getD j (0, 1) = low ((ps.getD j (0, 1)).1 * W + ws.getD j 0 * (ps.getD j (0, 1)).2) ((ps.getD j (0, 1)).2 * W) := by
  unfold grow
  rw [List.getD_eq_getElem?_getD, List.getElem?_map, (List.getElem?_zip_eq_some (z := (ps[j]'(by omega), ws[j]'hj))).mpr ⟨List.getElem?_eq_getElem (by omega : j < ps.length), List.getElem?_eq_getElem hj⟩, List.getD_eq_getElem?_getD, List.getD_eq_getElem?_getD, List.getElem?_eq_getElem (by omega : j < ps.length), List.getElem?_eq_getElem hj]
  rfl
theorem map_getD {α β : Type} (f : α → β) (xs : List α) (d : α) : (List.range xs.length).map (fun j => f (xs.getD j d)) = xs.map f := by
  refine List.ext_getElem (by simp) fun i h1 h2 => ?_
  have hi : i < xs.length := by simpa using h2
  simp [List.getD_eq_getElem?_getD, List.getElem?_eq_getElem hi]
theorem grown_lc {t : Nat} {mu : Tbl} {h n : Nat} {ps : List P} {ws row : List Int} (ht : t ≤ 39) (s : Sta t ps ws) (k : Kp mu h n ps ws row) : lcGo (gNm 3) bYes (eFn m_plus (aCons (eBin D.item (eFld mu "Credits" "owed" (eVar 0)) (eRd 3)) (aCons (eFn m_made (aCons (eBin D.item (eFld mu "Credits" "now" (eVar 0)) (eRd 3)) (aCons (eVar 1) aNil))) aNil)))
    [some (.sh (.hdl h)), some (.sh (.int ws.sum)), none, none, none] ((List.range ws.length).map fun j : Nat => D.int (j : Int)) = .ok ((grow ws.sum ps ws).map fr) := by
  obtain ⟨fs, ho, hf⟩ := k.ob
  have eo := objOf_h ho
  have gl := grow_len s
  have go : lcGo (gNm 3) bYes (eFn m_plus (aCons (eBin D.item (eFld mu "Credits" "owed" (eVar 0)) (eRd 3)) (aCons (eFn m_made (aCons (eBin D.item (eFld mu "Credits" "now" (eVar 0)) (eRd 3)) (aCons (eVar 1) aNil))) aNil)))
    [some (.sh (.hdl h)), some (.sh (.int ws.sum)), none, none, none] ((List.range ws.length).map fun j : Nat => D.int (j : Int)) = .ok ((List.range ws.length).map fun j => fr ((grow ws.sum ps ws).getD j (0, 1))) := by
    refine lcGo_map _ _ _ fun j hj => ⟨_, rfl, rfl, ?_⟩
    have hj := List.mem_range.mp hj
    have hjp : j < ps.length := by rw [s.len]; exact hj
    have hjf : j < fs.length := by rw [hf.len]; exact hjp
    have sm := s.sm _ (getD_mem (d := (0, 1)) hjp)
    obtain ⟨c1, c2⟩ := small_big sm (by omega)
    obtain ⟨b0, b1⟩ := s.wt.bd _ (getD_mem (d := 0) hj)
    have sp := s.wt.pos
    have sl := s.wt.le
    have ei : D.item (.tup fs) (.int (j : Int)) = some (fs[j]'hjf) := by
      show atI fs _ = _
      rw [atI_nat (by omega) (by simpa using hjf), Int.toNat_natCast, List.getElem?_eq_getElem hjf]
    have en : D.item (.tup (ws.map D.int)) (.int (j : Int)) = some (.int (ws.getD j 0)) := by
      show atI (ws.map D.int) _ = _
      rw [atI_nat (by omega) (by simpa using hj), Int.toNat_natCast, List.getElem?_map, List.getD_eq_getElem?_getD, List.getElem?_eq_getElem hj]
      rfl
    have p14 : (2 : Nat) ^ 14 ≤ 2 ^ 1000 := pow_mono (by omega)
    have p15 : (2 : Nat) ^ 14 ≤ 2 ^ 8000 := pow_mono (by omega)
    have n14 : (2 : Nat) ^ 14 = 16384 := by decide
    have vm := v_made (n := ws.getD j 0) sp (by omega)
    obtain ⟨d1, d2⟩ := low_den (n := ws.getD j 0) sp
    have d3 := low_num (n := ws.getD j 0) sp
    have vp := v_plus (hf.is j _ (List.getElem?_eq_getElem hjf)) (fr_is (low (ws.getD j 0) ws.sum)) sm.pos d1 c1 c2 (by omega) (by omega)
    rw [low_plus sm.pos sp] at vp
    rw [grow_at s.len hj]
    simp only [a_fn, a_cons, a_nil, a_bin, a_rd, a_var, a_fld, List.set, List.getElem?_cons_zero, List.getElem?_cons_succ, bind_ok, opt_some, eo, Option.bind, lk_owed, lk_now, ei, en, vm, vp]
  rw [go, ← gl, map_getD]
theorem gTuple_lst (xs : List D) : gTuple [.lst xs] = some (.tup xs) := rfl
theorem gLen_lst (xs : List D) : gLen [.lst xs] = some (.int (xs.length : Int)) := rfl
theorem gLen_tup (xs : List D) : gLen [.tup xs] = some (.int (xs.length : Int)) := rfl
theorem sumA_tup (ws : List Int) : gSumA [.tup (ws.map D.int)] = some (.int ws.sum) := by
  show ((intsD (ws.map D.int)).map fun ns => D.int ns.sum) = _
  rw [intsD_map]
  rfl
end DL

namespace DL
open PySem PySem.Spec PyProof.Rows L2
open Fr

/-! ### the one keeper, at 0; what stands behind it -/
def kt (ws : List Int) (fs : List D) (row : List Int) (ds : List D) (R : Tbl) : Tbl := crd (.tup (ws.map D.int)) (.tup fs) (.hdl 1) (.hdl 2) :: .lst (row.map D.int) :: .lst ds :: R
section
variable {ws ws' row row' : List Int} {fs fs' ds ds' : List D} {R : Tbl}
theorem kt_ob : objOf (kt ws fs row ds R) "Credits" (.hdl 0) = some (flds (.tup (ws.map D.int)) (.tup fs) (.hdl 1) (.hdl 2)) := objOf_h rfl
theorem kt_row : lstOf (kt ws fs row ds R) (.hdl 1) = some (row.map D.int) := lstOf_h rfl
theorem kt_ds : lstOf (kt ws fs row ds R) (.hdl 2) = some ds := lstOf_h rfl
theorem kt_sds : (kt ws fs row ds R).set 2 (.lst ds') = kt ws fs row ds' R := rfl
theorem kt_srow : (kt ws fs row ds R).set 1 (.lst (row.map D.int ++ [.int i])) = kt ws fs (row ++ [i]) ds R := by
  show crd _ _ _ _ :: Cl.lst (row.map D.int ++ [.int i]) :: _ = _
  unfold kt
  rw [List.map_append]
  rfl
theorem kt_srow' : (kt ws fs row ds R).set 1 (.lst (row.map D.int).dropLast) = kt ws fs row.dropLast ds R := by
  show crd _ _ _ _ :: Cl.lst (row.map D.int).dropLast :: _ = _
  unfold kt
  rw [List.map_dropLast]
theorem kt_sob : (kt ws fs row ds R).set 0 (.obj "Credits" (flds (.tup (ws'.map D.int)) (.tup fs') (.hdl 1) (.hdl 2))) = kt ws' fs' row ds R := rfl
theorem kt_kp {n : Nat} {ps : List P} (hf : Frs fs ps) (h1 : row.length ≤ n) (h2 : ds.length ≤ n) : Kp (kt ws fs row ds R) 0 n ps ws row := ⟨⟨fs, rfl, hf⟩, rfl, h1, ⟨ds, rfl, h2⟩⟩
theorem canM_kt {x : Str} (hx : ∀ a b c d : D, List.lookup x (flds a b c d) = none) : canM (kt ws fs row ds R) "Credits" x (.hdl 0) = true := by
  unfold canM
  rw [kt_ob]
  show (List.lookup x (flds _ _ _ _)).isNone = true
  rw [hx]
  rfl
theorem noM_back (a b c d : D) : List.lookup ("back" : Str) (flds a b c d) = none := noM (by decide +kernel) (by decide +kernel) (by decide +kernel) (by decide +kernel) a b c d
def sdeed (fs : List D) : D := .tup [.str "step", .tup fs]
def cdeed (ws : List Int) : D := .tup [.str "change", .tup (ws.map D.int)]
theorem v_step {t : Nat} {ps : List P} (ht : t ≤ 39) (hr : row.length ≤ 1000) (hd : ds.length ≤ 1000) (s : Sta t ps ws) (hf : Frs fs ps) :
    m_Credits_step [.hdl 0] (kt ws fs row ds R) = (.ok (.int ((best (grow ws.sum ps ws) : Nat) : Int)), kt ws ((pay (grow ws.sum ps ws) (best (grow ws.sum ps ws))).map fr) (row ++ [((best (grow ws.sum ps ws) : Nat) : Int)]) (ds ++ [sdeed fs]) R) := by
  have k : Kp (kt ws fs row ds R) 0 1000 ps ws row := kt_kp hf hr hd
  have gl := grow_len s
  have g0 : 0 < (grow ws.sum ps ws).length := by have := s.wt.l1; omega
  have bl := best_lt g0
  have big := grow_big ht s
  have lc := grown_lc ht s k
  have mid := grow_mid s _ (getD_mem (d := (0, 1)) bl)
  have bf := best_from1 g0
  generalize grow ws.sum ps ws = gs at *
  obtain ⟨x', lp⟩ := prgbest_loop (s0 := some (.sh (.hdl 0))) (s1 := some (.sh (.int ws.sum))) big (List.range' 1 (gs.length - 1)) 0 none g0 fun j hj => by
    have := List.mem_range'_1.mp hj
    omega
  rw [← bf, ← rng1] at lp
  generalize best gs = bb at *
  rw [show ((0 : Nat) : Int) = 0 from rfl] at lp
  have r0 : rngOk (ws.length : Int) = true := by unfold rngOk; have := s.wt.l6; simp; omega
  have lr : lim (rngD 0 (ws.length : Int).toNat).length = true := decide_eq_true (by rw [rng0]; have := s.wt.l6; simp; omega)
  have lc' : lcGo (gNm 3) bYes (eFn m_plus (aCons (eBin D.item (eFld (kt ws fs row ds R) "Credits" "owed" (eVar 0)) (eRd 3)) (aCons (eFn m_made (aCons (eBin D.item (eFld (kt ws fs row ds R) "Credits" "now" (eVar 0)) (eRd 3)) (aCons (eVar 1) aNil))) aNil)))
    [some (.sh (.hdl 0)), some (.sh (.int ws.sum)), none, none, none] (rngD 0 (ws.length : Int).toNat) = .ok (gs.map fr) := by rw [rng0, Int.toNat_natCast]; exact lc
  have ln : gLen [.tup (ws.map D.int)] = some (.int (ws.length : Int)) := by rw [gLen_tup, List.length_map]
  have lg : gLen [.lst (gs.map fr)] = some (.int (ws.length : Int)) := by rw [gLen_lst, List.length_map, gl]
  have r1 : rngOk 1 = true := rfl
  have lp' : fl (gNm 3) prgBody (rngD 1 ((ws.length : Int) - 1).toNat) [some (.sh (.hdl 0)), some (.sh (.int ws.sum)), some (.ow (.lst (gs.map fr))), none, some (.sh (.int 0))] = .nx [some (.sh (.hdl 0)), some (.sh (.int ws.sum)), some (.ow (.lst (gs.map fr))), x', some (.sh (.int (bb : Int)))] := by
    rw [show ((ws.length : Int) - 1).toNat = gs.length - 1 by have := s.wt.l1; omega]
    exact lp
  have sb := small_big (small_of_mid mid) (by omega)
  have vm := v_minus1 (fr_is (gs.getD bb (0, 1))) mid.pos sb.1 sb.2 mid.cop
  have ib := item_fr bl
  have ix : ixN (gs.map fr).length (bb : Int) = some bb := by
    unfold ixN
    rw [if_pos (by omega), if_pos (by simp; omega), Int.toNat_natCast]
  have es : (gs.map fr).set bb (.tup [.int ((gs.getD bb (0, 1)).1 - (gs.getD bb (0, 1)).2), .int (gs.getD bb (0, 1)).2]) = (pay gs bb).map fr := by
    unfold pay
    rw [List.map_set]
  have l2 : lim 2 = true := rfl
  have ld : lim ds.length = true := decide_eq_true (by omega)
  have lw : lim (row.map D.int).length = true := decide_eq_true (by simp; omega)
  simp only [m_Credits_step, g_Credits_step, t_runT, t_seq, t_P, a_start, List.map_cons, List.map_nil, List.length_cons, List.length_nil, List.cons_append, List.nil_append, List.replicate, List.append_nil, List.set, Nat.reduceAdd, Nat.reduceSub, Nat.reduceLT, if_true, a_set, a_setF, a_call, a_fld, a_cons, a_nil, a_var, a_rd, a_c, a_lc, iR, a_wipe, a_wipe0, a_for, List.getElem?_cons_zero, List.getElem?_cons_succ, bind_ok, opt_some, kt_ob, Option.bind, lk_now, lk_owed, lk_deeds, lk_row, sumA_tup, ln, lg, r0, r1, Bool.and_self, lr, lc', lp', a_put, a_owL, a_fn, a_bin, a_tup, l2, ib, vm, ix, es, t_appC, kt_ds, ld, t_fld, t_eP, gTuple_lst, kt_sds, kt_ob, pt_owed, kt_sob, kt_row, lw, kt_srow, a_retO, outT_rt, sdeed]
/-! ### a deed is taken back -/
theorem dks_frs : ∀ {fs : List D} {ps : List P}, Frs fs ps → dks fs 1 = true
  | [], _, _ => by simp [dks]
  | f :: fs, [], h => by have := h.len; simp at this
  | f :: fs, p :: ps, h => by
    have h0 : IsFr f p := h.is 0 f rfl
    have ht : Frs fs ps := ⟨by have := h.len; simpa using this, fun j d e => h.is (j + 1) d e⟩
    rw [dks, dks_frs ht, Bool.and_true]
    rcases h0 with rfl | rfl <;> simp [dk, dks]
theorem dk_sdeed (h : dks fs 1 = true) : dk (sdeed fs) 3 = true := by
  have e : PyData.canLay0 (.str "step") = true := by decide +kernel
  simp only [sdeed, dk, dks, h, e, Bool.and_self]
theorem dk_cdeed (ws : List Int) : dk (cdeed ws) 3 = true := by
  have e : PyData.canLay0 (.str "change") = true := by decide +kernel
  simp only [cdeed, dk, dks, dks_int, e, Bool.and_self]
theorem last_app {α : Type} (xs : List α) (x : α) : (xs ++ [x])[(xs ++ [x]).length - 1]? = some x := by simp
theorem drop_app {α : Type} (xs : List α) (x : α) : (xs ++ [x]).dropLast = xs := by simp
theorem eqs_step : D.eq (.str "step") (.str "step") = some (.bl true) := by rw [str_eq _ _ (by decide +kernel) (by decide +kernel)]; rfl
theorem eqs_chg : D.eq (.str "change") (.str "step") = some (.bl false) := by
  rw [str_eq _ _ (by decide +kernel) (by decide +kernel), show (("change" : Str) == "step") = false by decide +kernel]
theorem eq_app0 {d : D} (h : dks ds 3 = true) (hd : dk d 3 = true) : D.eq (.lst (ds ++ [d])) (.lst []) = some (.bl false) := by
  rw [eq_nil0 (n := 4) (by simp only [dk, dks_app, h, dks, hd, Bool.and_self]) (by omega)]
  cases ds <;> rfl
theorem pi_sdeed : (sdeed fs) = .tup [.str "step", .tup fs] := rfl
theorem v_back_s (hr : row ≠ []) (hd : dks ds 3 = true) (hf : dks fs' 1 = true) : m_Credits_back [.hdl 0] (kt ws fs row (ds ++ [sdeed fs']) R) = (.ok (.str "step"), kt ws fs' row.dropLast ds R) := by
  have e0 := eq_app0 hd (dk_sdeed hf)
  have l0 : lim 0 = true := rfl
  have la := last_app ds (sdeed fs')
  rw [pi_sdeed] at e0 la ⊢
  obtain ⟨x, hx⟩ : ∃ x, (row.map D.int)[(row.map D.int).length - 1]? = some x := ⟨_, List.getElem?_eq_getElem (by have : 0 < row.length := List.length_pos_iff.mpr hr; simp; omega)⟩
  simp only [m_Credits_back, g_Credits_back, t_runT, t_seq, t_P, a_start, List.map_cons, List.map_nil, List.length_cons, List.length_nil, List.cons_append, List.nil_append, List.replicate, List.append_nil, List.set, Nat.reduceAdd, Nat.reduceSub, Nat.reduceLT, if_true, if_false, a_sIf, a_bV, a_bin, a_cel, a_fld, a_rd, a_c, a_var, a_nil, a_cons, a_lst, List.getElem?_cons_zero, List.getElem?_cons_succ, bind_ok, opt_some, kt_ob, Option.bind, lk_deeds, kt_ds, Option.map, l0, e0, asB_bl, a_snil, t_unp, t_popC, la, drop_app, kt_sds, a_gtp, a_gcons, a_gnil, a_nm, t_if, t_bP, eqs_step, t_fld, t_eP, pt_owed, kt_sob, t_expr, lk_row, kt_row, hx, kt_srow', a_retO, outT_rt]
theorem v_back_c (hd : dks ds 3 = true) : m_Credits_back [.hdl 0] (kt ws fs row (ds ++ [cdeed ws']) R) = (.ok (.str "change"), kt ws' fs row ds R) := by
  have e0 := eq_app0 hd (dk_cdeed ws')
  have l0 : lim 0 = true := rfl
  have la := last_app ds (cdeed ws')
  have pc : (cdeed ws') = .tup [.str "change", .tup (ws'.map D.int)] := rfl
  rw [pc] at e0 la ⊢
  simp only [m_Credits_back, g_Credits_back, t_runT, t_seq, t_P, a_start, List.map_cons, List.map_nil, List.length_cons, List.length_nil, List.cons_append, List.nil_append, List.replicate, List.append_nil, List.set, Nat.reduceAdd, Nat.reduceSub, Nat.reduceLT, if_true, if_false, a_sIf, a_bV, a_bin, a_cel, a_fld, a_rd, a_c, a_var, a_nil, a_cons, a_lst, List.getElem?_cons_zero, List.getElem?_cons_succ, bind_ok, opt_some, kt_ob, Option.bind, lk_deeds, kt_ds, Option.map, l0, e0, asB_bl, a_snil, t_unp, t_popC, la, drop_app, kt_sds, a_gtp, a_gcons, a_gnil, a_nm, t_if, t_bP, eqs_chg, t_fld, t_eP, pt_now, kt_sob, a_retO, outT_rt]
theorem v_back_0 : m_Credits_back [.hdl 0] (kt ws fs row [] R) = (.error (.exc .NoStep none), kt ws fs row [] R) := by
  have e0 : D.eq (.lst []) (.lst []) = some (.bl true) := eq_nil0 (n := 1) (by simp [dk, dks]) (by omega)
  have l0 : lim 0 = true := rfl
  simp only [m_Credits_back, g_Credits_back, t_runT, t_seq, t_P, a_start, List.map_cons, List.map_nil, List.length_cons, List.length_nil, List.cons_append, List.nil_append, List.replicate, List.append_nil, List.set, Nat.reduceAdd, Nat.reduceSub, Nat.reduceLT, if_true, if_false, a_sIf, a_bV, a_bin, a_cel, a_fld, a_rd, a_c, a_var, a_nil, a_cons, a_lst, List.getElem?_cons_zero, List.getElem?_cons_succ, bind_ok, opt_some, kt_ob, Option.bind, lk_deeds, kt_ds, Option.map, l0, e0, asB_bl, a_raise, outT_er]
/-! ### other weights -/
theorem v_change {us : List Int} (hd : ds.length ≤ 1000) (wt : Wt us) (hl : us.length = ws.length) : m_Credits_change [.hdl 0, intL us] (kt ws fs row ds R) = (.ok .non, kt us fs row (ds ++ [cdeed ws]) R) := by
  have ld : lim ds.length = true := decide_eq_true (by omega)
  have l2 : lim 2 = true := rfl
  have ln : gLen [.tup (ws.map D.int)] = some (.int (us.length : Int)) := by rw [gLen_tup, List.length_map, hl]
  have gt : gTuple [intL us] = some (.tup (us.map D.int)) := rfl
  simp only [m_Credits_change, g_Credits_change, t_runT, t_seq, t_P, a_start, List.map_cons, List.map_nil, List.length_cons, List.length_nil, List.cons_append, List.nil_append, List.replicate, List.append_nil, List.set, Nat.reduceAdd, Nat.reduceSub, Nat.reduceLT, if_true, if_false, a_sIf, a_bOr, a_bNot, a_bV, a_fn, a_call, a_fld, a_cons, a_nil, a_var, a_rd, a_c, a_bin, List.getElem?_cons_zero, List.getElem?_cons_succ, bind_ok, opt_some, v_are_weights wt, asB_bl, Bool.not_true, Bool.false_eq_true, p_len, kt_ob, Option.bind, lk_now, lk_deeds, ln, p_nei, decide_true, Bool.not_true, a_snil, t_appC, kt_ds, a_tup, l2, ld, t_fld, t_eP, gt, kt_sds, pt_now, kt_sob, outT_nx, cdeed]
/-- what is no weights, or of other many -/
def NoW (n : Nat) (d : D) : Prop := m_are_weights [d] = .ok (.bl false) ∨ (m_are_weights [d] = .ok (.bl true) ∧ ∃ m : Nat, m ≠ n ∧ gLen [d] = some (.int (m : Int)))
theorem v_change_no {d : D} (h : NoW ws.length d) : m_Credits_change [.hdl 0, d] (kt ws fs row ds R) = (.error (.exc .NoPlan (some 0)), kt ws fs row ds R) := by
  have ln : gLen [.tup (ws.map D.int)] = some (.int (ws.length : Int)) := by rw [gLen_tup, List.length_map]
  rcases h with h | ⟨h, m, hm, hl⟩
  · simp only [m_Credits_change, g_Credits_change, t_runT, t_seq, t_P, a_start, List.map_cons, List.map_nil, List.length_cons, List.length_nil, List.cons_append, List.nil_append, List.replicate, List.append_nil, List.set, Nat.reduceAdd, Nat.reduceSub, Nat.reduceLT, if_true, if_false, a_sIf, a_bOr, a_bNot, a_bV, a_fn, a_call, a_fld, a_cons, a_nil, a_var, a_rd, a_c, a_bin, List.getElem?_cons_zero, List.getElem?_cons_succ, bind_ok, opt_some, h, asB_bl, Bool.not_false, a_raiseAt, outT_er]
  · have q0 : decide ((m : Int) = (ws.length : Int)) = false := decide_eq_false (by omega)
    simp only [m_Credits_change, g_Credits_change, t_runT, t_seq, t_P, a_start, List.map_cons, List.map_nil, List.length_cons, List.length_nil, List.cons_append, List.nil_append, List.replicate, List.append_nil, List.set, Nat.reduceAdd, Nat.reduceSub, Nat.reduceLT, if_true, if_false, a_sIf, a_bOr, a_bNot, a_bV, a_fn, a_call, a_fld, a_cons, a_nil, a_var, a_rd, a_c, a_bin, List.getElem?_cons_zero, List.getElem?_cons_succ, bind_ok, opt_some, h, asB_bl, Bool.not_true, Bool.false_eq_true, hl, kt_ob, Option.bind, lk_now, ln, p_nei, q0, Bool.not_false, a_raiseAt, outT_er]
/-- no keeper is made of what is no weights -/
theorem v_init_no {d : D} {n : Nat} {mu : Tbl} (h : m_are_weights [d] = .ok (.bl false)) : m_Credits_init [.hdl n, d] mu = (.error (.exc .NoPlan (some 0)), mu) := by
  simp only [m_Credits_init, g_Credits_init, t_runT, t_seq, t_P, a_start, List.map_cons, List.map_nil, List.length_cons, List.length_nil, List.cons_append, List.nil_append, List.replicate, List.append_nil, List.set, Nat.reduceAdd, Nat.reduceSub, Nat.reduceLT, if_true, if_false, a_sIf, a_bNot, a_bV, a_fn, a_cons, a_nil, a_var, a_c, List.getElem?_cons_zero, List.getElem?_cons_succ, bind_ok, opt_some, h, asB_bl, Bool.not_false, a_raiseAt, outT_er]
/-- a keeper is made -/
theorem v_init {ws : List Int} (wt : Wt ws) : m_Credits_init [.hdl 0, intL ws] [.obj "Credits" []] = (.ok .non, kt ws (nought ws.length) [] [] []) := by
  have gt : gTuple [intL ws] = some (.tup (ws.map D.int)) := rfl
  have l0 : lim 0 = true := rfl
  have l1 : lim 1 = true := rfl
  have em : D.mul (.lst [tupI [0, 1]]) (.int ws.length) = some (.lst (nought ws.length)) := by
    show (if 0 ≤ (ws.length : Int) ∧ (ws.length : Int) ≤ 1000000 ∧ lim ([tupI [0, 1]].length * (ws.length : Int).toNat) then _ else none) = _
    have := wt.l6
    rw [if_pos ⟨by omega, by omega, decide_eq_true (by simp; omega)⟩]
    congr 2
    unfold nought
    rw [Int.toNat_natCast]
    generalize ws.length = n
    induction n with
    | zero => rfl
    | succ n ih => rw [List.replicate_succ, List.flatten_cons, ih]; rfl
  have gn : gTuple [.lst (nought ws.length)] = some (.tup (nought ws.length)) := rfl
  have o1 : ∀ (f : List (Str × D)) (r : Tbl), objOf (.obj "Credits" f :: r) "Credits" (.hdl 0) = some f := fun f r => objOf_h rfl
  simp only [m_Credits_init, g_Credits_init, t_runT, t_seq, t_P, a_start, List.map_cons, List.map_nil, List.length_cons, List.length_nil, List.cons_append, List.nil_append, List.replicate, List.append_nil, List.set, Nat.reduceAdd, Nat.reduceSub, if_true, a_sIf, a_bNot, a_bV, a_fn, a_cons, a_nil, a_var, List.getElem?_cons_zero, List.getElem?_cons_succ, bind_ok, opt_some, v_are_weights wt, asB_bl, Bool.not_true, a_snil, t_fld, t_eP, a_call, a_rd, gt, o1, pi_1, a_bin, a_lst, a_c, l1, l0, p_len, em, gn, pi_2, t_newL, pi_3, pi_4, Nat.reduceLT, outT_nx]
  rfl
end
end DL

namespace DL
open PySem PySem.Spec PyProof.Rows L2
open Fr

/-! ### what is seen of the keeper -/
theorem gList_tup (xs : List D) : gList [.tup xs] = some (.lst xs) := rfl
theorem gList_lst (xs : List D) : gList [.lst xs] = some (.lst xs) := rfl
def seenK (ws : List Int) (fs : List D) (row : List Int) : D := .tup [.lst fs, intL ws, intL row]
theorem dk_seen {ws row : List Int} {fs : List D} (h : dks fs 1 = true) : dk (seenK ws fs row) 3 = true := by
  simp only [seenK, dk, dks, h, dks_int, Bool.and_self]
section
variable {ws ws' row row' us : List Int} {fs fs' ds ds' : List D} {R : Tbl} {d : D}
theorem v_owing : m_Credits_owing (kt ws fs row ds R) [.hdl 0] = .ok (.lst fs) := by
  simp only [m_Credits_owing, g_Credits_owing, a_runF, a_start, List.map_cons, List.map_nil, List.length_cons, List.length_nil, List.cons_append, List.nil_append, List.replicate, List.append_nil, Nat.reduceAdd, Nat.reduceSub, if_true, a_retF, a_call, a_cons, a_nil, a_fld, a_var, List.getElem?_cons_zero, List.getElem?_cons_succ, bind_ok, opt_some, kt_ob, Option.bind, lk_owed, gList_tup, outF_ro]
theorem v_kweights : m_Credits_weights (kt ws fs row ds R) [.hdl 0] = .ok (intL ws) := by
  simp only [m_Credits_weights, g_Credits_weights, a_runF, a_start, List.map_cons, List.map_nil, List.length_cons, List.length_nil, List.cons_append, List.nil_append, List.replicate, List.append_nil, Nat.reduceAdd, Nat.reduceSub, if_true, a_retF, a_call, a_cons, a_nil, a_fld, a_var, List.getElem?_cons_zero, List.getElem?_cons_succ, bind_ok, opt_some, kt_ob, Option.bind, lk_now, gList_tup, outF_ro]
theorem v_told : m_Credits_told (kt ws fs row ds R) [.hdl 0] = .ok (intL row) := by
  simp only [m_Credits_told, g_Credits_told, a_runF, a_start, List.map_cons, List.map_nil, List.length_cons, List.length_nil, List.cons_append, List.nil_append, List.replicate, List.append_nil, Nat.reduceAdd, Nat.reduceSub, if_true, a_retF, a_call, a_cons, a_nil, a_cel, a_fld, a_var, List.getElem?_cons_zero, List.getElem?_cons_succ, bind_ok, opt_some, kt_ob, Option.bind, lk_row, kt_row, Option.map, gList_lst, outF_ro]
theorem v_seen : m_L_seen (kt ws fs row ds R) [.hdl 0] = .ok (seenK ws fs row) := by
  have l3 : lim 3 = true := rfl
  simp only [m_L_seen, g_L_seen, a_runD, a_start, List.map_cons, List.map_nil, List.length_cons, List.length_nil, List.cons_append, List.nil_append, List.replicate, List.append_nil, Nat.reduceAdd, Nat.reduceSub, if_true, a_ret, a_tup, a_mt, a_cons, a_nil, a_var, List.getElem?_cons_zero, List.getElem?_cons_succ, bind_ok, canM_kt noM_owing, canM_kt noM_weights, canM_kt noM_told, v_owing, v_kweights, v_told, l3, out_rs, seenK]

/-! ### what is said -/
theorem c_plan : List.contains [EC.NoPlan, EC.NoStep] EC.NoPlan = true := rfl
theorem c_step : List.contains [EC.NoPlan, EC.NoStep] EC.NoStep = true := rfl
theorem c_plan1 : List.contains [EC.NoPlan] EC.NoPlan = true := rfl
theorem i_pr : EC.isa .NoPlan .NoRow = false := rfl
theorem i_pt : EC.isa .NoPlan .NoTurns = false := rfl
theorem i_ps : EC.isa .NoPlan .NoStep = false := rfl
theorem i_pp : EC.isa .NoPlan .NoPlan = true := rfl
theorem i_sr : EC.isa .NoStep .NoRow = false := rfl
theorem i_st : EC.isa .NoStep .NoTurns = false := rfl
theorem i_ss : EC.isa .NoStep .NoStep = true := rfl
theorem i_sp : EC.isa .NoStep .NoPlan = false := rfl
theorem q00 : D.eq (.int 0) (.int 0) = some (.bl true) := by rw [p_eqi]; rfl
theorem q10 : D.eq (.int 1) (.int 0) = some (.bl false) := by rw [p_eqi]; rfl
theorem q11 : D.eq (.int 1) (.int 1) = some (.bl true) := by rw [p_eqi]; rfl
theorem q20 : D.eq (.int 2) (.int 0) = some (.bl false) := by rw [p_eqi]; rfl
theorem q21 : D.eq (.int 2) (.int 1) = some (.bl false) := by rw [p_eqi]; rfl
theorem v_said_s (hr : row ≠ []) (hd : dks ds 3 = true) (hf : dks fs' 1 = true) : m_L_said [.hdl 0, .int 0, .non] (kt ws fs row (ds ++ [sdeed fs']) R) = (.ok (.str "step"), kt ws fs' row.dropLast ds R) := by
  simp only [m_L_said, g_L_said, t_runT, t_seq, t_P, a_start, List.map_cons, List.map_nil, List.length_cons, List.length_nil, List.cons_append, List.nil_append, List.replicate, List.append_nil, List.set, Nat.reduceAdd, Nat.reduceSub, if_true, a_set, a_c, t_try, t_if, t_bP, a_bV, a_bin, a_rd, a_var, List.getElem?_cons_zero, List.getElem?_cons_succ, bind_ok, opt_some, q00, asB_bl, t_set, t_mt, canM_kt noM_back, a_nil, v_back_s hr hd hf, a_retO, outT_rt]
theorem v_said_c (hd : dks ds 3 = true) : m_L_said [.hdl 0, .int 0, .non] (kt ws fs row (ds ++ [cdeed ws']) R) = (.ok (.str "change"), kt ws' fs row ds R) := by
  simp only [m_L_said, g_L_said, t_runT, t_seq, t_P, a_start, List.map_cons, List.map_nil, List.length_cons, List.length_nil, List.cons_append, List.nil_append, List.replicate, List.append_nil, List.set, Nat.reduceAdd, Nat.reduceSub, if_true, a_set, a_c, t_try, t_if, t_bP, a_bV, a_bin, a_rd, a_var, List.getElem?_cons_zero, List.getElem?_cons_succ, bind_ok, opt_some, q00, asB_bl, t_set, t_mt, canM_kt noM_back, a_nil, v_back_c hd, a_retO, outT_rt]
theorem v_said_0 : m_L_said [.hdl 0, .int 0, .non] (kt ws fs row [] R) = (.ok (.str "none"), kt ws fs row [] R) := by
  simp only [m_L_said, g_L_said, t_runT, t_seq, t_P, a_start, List.map_cons, List.map_nil, List.length_cons, List.length_nil, List.cons_append, List.nil_append, List.replicate, List.append_nil, List.set, Nat.reduceAdd, Nat.reduceSub, if_true, a_set, a_c, t_try, t_if, t_bP, a_bV, a_bin, a_rd, a_var, List.getElem?_cons_zero, List.getElem?_cons_succ, bind_ok, opt_some, q00, asB_bl, t_set, t_mt, canM_kt noM_back, a_nil, v_back_0, nx_sh, nx_none, nx_nil, c_step, Bool.and_self, a_sIf, a_bOr, a_bNot, a_xis, i_sr, i_st, i_ss, i_sp, Bool.or_self, Bool.not_true, Bool.false_eq_true, if_false, a_snil, a_if, t_clr, a_retO, outT_rt]
theorem v_said_1 (h : NoW ws.length d) : m_L_said [.hdl 0, .int 1, d] (kt ws fs row ds R) = (.ok (.int 0), kt ws fs row ds R) := by
  simp only [m_L_said, g_L_said, t_runT, t_seq, t_P, a_start, List.map_cons, List.map_nil, List.length_cons, List.length_nil, List.cons_append, List.nil_append, List.replicate, List.append_nil, List.set, Nat.reduceAdd, Nat.reduceSub, if_true, a_set, a_c, t_try, t_if, t_bP, a_bV, a_bin, a_rd, a_var, List.getElem?_cons_zero, List.getElem?_cons_succ, bind_ok, opt_some, q10, q11, asB_bl, t_expr, t_mt, canM_kt noM_change, a_cons, a_nil, v_change_no h, nx_sh, nx_none, nx_nil, c_plan, c_plan1, Bool.and_self, a_sIf, a_bOr, a_bNot, a_xis, a_xat, i_pr, i_pt, i_ps, i_pp, Bool.or_self, Bool.not_true, Bool.false_eq_true, if_false, a_snil, a_if, t_clr, a_retO, outT_rt]
theorem v_said_2 {x : D} {mu : Tbl} (h : m_are_weights [d] = .ok (.bl false)) : m_L_said [x, .int 2, d] mu = (.ok (.int 0), mu ++ [.obj "Credits" []]) := by
  simp only [m_L_said, g_L_said, t_runT, t_seq, t_P, a_start, List.map_cons, List.map_nil, List.length_cons, List.length_nil, List.cons_append, List.nil_append, List.replicate, List.append_nil, List.set, Nat.reduceAdd, Nat.reduceSub, if_true, a_set, a_c, t_try, t_if, t_bP, a_bV, a_bin, a_rd, a_var, List.getElem?_cons_zero, List.getElem?_cons_succ, bind_ok, opt_some, q20, q21, asB_bl, t_expr, t_new, a_cons, a_nil, v_init_no h, nx_sh, nx_none, nx_nil, c_plan, c_plan1, Bool.and_self, a_sIf, a_bOr, a_bNot, a_xis, a_xat, i_pr, i_pt, i_ps, i_pp, Bool.or_self, Bool.not_true, Bool.false_eq_true, if_false, a_snil, a_if, t_clr, a_retO, outT_rt]
end

/-! ### no keepers are made -/
abbrev noneBody : TS1 := (sIfT (bVT (eBinT D.ne (eFnT m_L_said (fun mu => (aCons (eVar 0) (aCons (eC (.int 2)) (aCons (eVar 2) aNil))))) (fun mu => (eC (.int 0)))))
    (sP (fun mu => (sRet (eC (.bl false)))))
    sNilT)
theorem none_loop {x y : D} : ∀ (xs : List D) (a : Option Sl) (mu : Tbl), (∀ d ∈ xs, m_are_weights [d] = .ok (.bl false)) → ∃ a' r, flT (gNm 2) noneBody xs mu [some (.sh x), some (.sh y), a] = (.nx [some (.sh x), some (.sh y), a'], mu ++ r)
  | [], a, mu, _ => ⟨a, [], by rw [List.append_nil]; rfl⟩
  | d :: xs, a, mu, h => by
    obtain ⟨a', r, e⟩ := none_loop xs (some (.sh d)) (mu ++ [.obj "Credits" []]) fun z hz => h z (List.mem_cons_of_mem _ hz)
    refine ⟨a', .obj "Credits" [] :: r, ?_⟩
    have n0 : D.ne (.int 0) (.int 0) = some (.bl false) := by rw [p_nei]; rfl
    have e2 : noneBody mu [some (.sh x), some (.sh y), some (.sh d)] = (.nx [some (.sh x), some (.sh y), some (.sh d)], mu ++ [.obj "Credits" []]) := by
      simp only [t_if, t_bV, t_bin, t_fn, a_cons, a_nil, a_c, a_var, List.getElem?_cons_zero, List.getElem?_cons_succ, bind_ok, opt_some, v_said_2 (h d (List.mem_cons_self ..)), n0, t_nil]
    rw [flT]
    simp only [a_nm, List.set, e2]
    rw [e, List.append_assoc]
    rfl
theorem many_cases {n : Nat} (h1 : 1 ≤ n) (h2 : n ≤ 5) : n = 1 ∨ n = 2 ∨ n = 3 ∨ n = 4 ∨ n = 5 := by omega
theorem mul_lst (x : D) {n : Nat} (h2 : n ≤ 8) : D.mul (.lst [x]) (.int n) = some (.lst (List.replicate n x)) := by
  have : n = 0 ∨ n = 1 ∨ n = 2 ∨ n = 3 ∨ n = 4 ∨ n = 5 ∨ n = 6 ∨ n = 7 ∨ n = 8 := by omega
  rcases this with h | h | h | h | h | h | h | h | h <;> subst h <;> rfl
theorem mul_tup (x : D) {n : Nat} (h1 : 1 ≤ n) (h2 : n ≤ 5) : D.mul (.tup [x]) (.int n) = some (.tup (List.replicate n x)) := by
  rcases many_cases h1 h2 with h | h | h | h | h <;> subst h <;> rfl
theorem v_none_made {n : Nat} {x : D} {mu : Tbl} (h1 : 1 ≤ n) (h2 : n ≤ 5) : ∃ r, m_L_none_made [x, .int n] mu = (.ok (.bl true), mu ++ r) := by
  have z : m_are_weights [.lst (List.replicate n (.int 0))] = .ok (.bl false) := by rcases many_cases h1 h2 with h | h | h | h | h <;> subst h <;> rfl
  obtain ⟨a', r, e⟩ := none_loop (x := x) (y := .int n) [.non, .lst [], .lst (List.replicate n (.int 0)), .lst (List.replicate 7 (.int 1)), .tup [.int 1], .lst [.int (-1)], .lst [.int 1, .non], .str "1", .int 5, .lst [.int 1, .bl true]] none mu (by
    intro d hd
    simp only [List.mem_cons, List.not_mem_nil, or_false] at hd
    rcases hd with h | h | h | h | h | h | h | h | h | h <;> subst h <;> first | exact z | rfl)
  refine ⟨r, ?_⟩
  have m0 := mul_lst (.int 0) (n := n) (by omega)
  have m7 : D.mul (.lst [.int 1]) (.int 7) = some (.lst (List.replicate 7 (.int 1))) := mul_lst (n := 7) _ (by omega)
  have l0 : lim 0 = true := rfl
  have l1 : lim 1 = true := rfl
  have l2 : lim 2 = true := rfl
  have l10 : lim 10 = true := rfl
  simp only [m_L_none_made, g_L_none_made, t_runT, t_seq, t_P, a_start, List.map_cons, List.map_nil, List.length_cons, List.length_nil, List.cons_append, List.nil_append, List.replicate, List.append_nil, Nat.reduceAdd, Nat.reduceSub, if_true, t_for, a_iL, a_lst, a_tup, a_cons, a_nil, a_c, a_bin, a_un, a_rd, List.getElem?_cons_zero, List.getElem?_cons_succ, bind_ok, opt_some, l0, l1, l2, l10, m0, m7, p_neg, a_ret]
  simp only [List.replicate] at e
  rw [e]
  rfl
end DL

namespace DL
open PySem PySem.Spec PyProof.Rows L2
open Fr

/-! ### the deeds, and what was seen ahead of them -/
def pdeed (w : Str) (x : D) : D := .tup [.str w, x]
inductive Chain (n : Nat) : Nat → List Int → List D → List P → List Int → List D → List D → Prop
  | nil {ws : List Int} (wt : Wt ws) (hn : ws.length = n) : Chain n 0 ws (nought ws.length) (List.replicate ws.length (0, 1)) [] [] []
  | step {t : Nat} {ws row : List Int} {fs ds past : List D} {ps : List P} (h : Chain n t ws fs ps row ds past) : Chain n (t + 1) ws ((pay (grow ws.sum ps ws) (best (grow ws.sum ps ws))).map fr) (pay (grow ws.sum ps ws) (best (grow ws.sum ps ws)))
      (row ++ [((best (grow ws.sum ps ws) : Nat) : Int)]) (ds ++ [sdeed fs]) (past ++ [pdeed "step" (seenK ws fs row)])
  | chg {t : Nat} {ws us row : List Int} {fs ds past : List D} {ps : List P} (h : Chain n t ws fs ps row ds past) (wt : Wt us) (hl : us.length = n) : Chain n (t + 1) us fs ps row (ds ++ [cdeed ws]) (past ++ [pdeed "change" (seenK ws fs row)])
structure COk (n t : Nat) (ws : List Int) (fs : List D) (ps : List P) (row : List Int) (ds past : List D) : Prop where
  st : Sta (t + 1) ps ws
  fr : Frs fs ps
  rl : row.length ≤ t
  dl : ds.length = t
  pl : past.length = t
  dk : dks ds 3 = true
  pk : dks past 4 = true
  ln : ws.length = n
theorem dk_pdeed {w : Str} {x : D} (hw : PyData.canLay0 (.str w) = true) (h : dk x 3 = true) : dk (pdeed w x) 4 = true := by
  simp only [pdeed, dk, dks, hw, h, Bool.and_self]
theorem small01 (t n : Nat) : ∀ p ∈ List.replicate n ((0, 1) : P), Small (t + 1) p := fun p hp => by
  rw [(List.mem_replicate.mp hp).2]
  have e : 2 ^ (16 * 1) ≤ 2 ^ (16 * (t + 1)) := Nat.pow_le_pow_right (by omega) (by omega)
  have e2 : (2 : Nat) ^ (16 * 1) = 65536 := by decide
  exact ⟨by decide, by show 1 < _; omega, by show 0 < _; omega⟩
theorem Sta.up {s t : Nat} {ps : List P} {ws : List Int} (h : Sta s ps ws) (q : s ≤ t) : Sta t ps ws := ⟨h.len, fun p hp => small_mono (h.sm p hp) q, h.wt⟩
theorem Sta.chg {t : Nat} {ps : List P} {ws us : List Int} (h : Sta t ps ws) (wt : Wt us) (hl : us.length = ws.length) : Sta t ps us := ⟨by rw [h.len, hl], h.sm, wt⟩
theorem Chain.ok {n t : Nat} {ws row : List Int} {fs ds past : List D} {ps : List P} (h : Chain n t ws fs ps row ds past) : COk n t ws fs ps row ds past := by
  induction h with
  | nil wt hn => exact ⟨⟨by simp, small01 0 _, wt⟩, frs_nought _, by simp, rfl, rfl, by simp [dks], by simp [dks], hn⟩
  | step h ih =>
    exact ⟨sta_step ih.st, frs_fr _, by rw [List.length_append]; have := ih.rl; simp; omega, by rw [List.length_append, ih.dl]; rfl, by rw [List.length_append, ih.pl]; rfl,
      by rw [dks_app, ih.dk]; simp only [dks, dk_sdeed (dks_frs ih.fr), Bool.and_self], by rw [dks_app, ih.pk]; simp only [dks, dk_pdeed (w := "step") (by decide +kernel) (dk_seen (dks_frs ih.fr)), Bool.and_self], ih.ln⟩
  | chg h wt hl ih =>
    exact ⟨(ih.st.chg wt (by rw [hl, ih.ln])).up (Nat.le_succ _), ih.fr, Nat.le_succ_of_le ih.rl, by rw [List.length_append, ih.dl]; rfl, by rw [List.length_append, ih.pl]; rfl,
      by rw [dks_app, ih.dk]; simp only [dks, dk_cdeed, Bool.and_self], by rw [dks_app, ih.pk]; simp only [dks, dk_pdeed (w := "change") (by decide +kernel) (dk_seen (dks_frs ih.fr)), Bool.and_self], hl⟩
section
variable {ws ws' row row' us : List Int} {fs fs' ds ds' past : List D} {r : Tbl} {d x : D}
theorem kt_past : lstOf (kt ws fs row ds (.lst past :: r)) (.hdl 3) = some past := lstOf_h rfl
theorem kt_rpast : resC (kt ws fs row ds (.lst past :: r)) (.hdl 3) = .lst past := resC_lst rfl
theorem kt_spast {p' : List D} : (kt ws fs row ds (.lst past :: r)).set 3 (.lst p') = kt ws fs row ds (.lst p' :: r) := rfl
theorem pnil {x : D} (h : dks past 4 = true) (hx : dk x 4 = true) : D.eq (.lst (past ++ [x])) (.lst []) = some (.bl false) := by
  rw [eq_nil0 (n := 5) (by simp only [dk, dks_app, h, dks, hx, Bool.and_self]) (by omega)]
  cases past <;> rfl

/-! ### the law takes a deed back -/
theorem v_Lback_s (hr : row ≠ []) (hd : dks ds 3 = true) (hf : dks fs' 1 = true) (hp : dks past 4 = true) : m_L_back [.hdl 0, .hdl 3] (kt ws fs row (ds ++ [sdeed fs']) (.lst (past ++ [pdeed "step" (seenK ws fs' row.dropLast)]) :: r)) = (.ok (.bl true), kt ws fs' row.dropLast ds (.lst past :: r)) := by
  have hk := dk_pdeed (w := "step") (by decide +kernel) (dk_seen (ws := ws) (row := row.dropLast) hf)
  have e0 := pnil hp hk
  have e1 := eq_self (dk_seen (ws := ws) (row := row.dropLast) hf) (by omega)
  have l0 : lim 0 = true := rfl
  have la := last_app past (pdeed "step" (seenK ws fs' row.dropLast))
  have pe : pdeed "step" (seenK ws fs' row.dropLast) = .tup [.str "step", seenK ws fs' row.dropLast] := rfl
  rw [pe] at e0 la ⊢
  simp only [m_L_back, g_L_back, t_runT, a_start, List.cons_append, List.nil_append, List.replicate, List.append_nil, a_cv, map_ok, kt_rpast, a_lst, l0, e0, t_unp, t_popC, kt_past, la, drop_app, kt_spast, a_gtp, a_gcons, a_gnil, a_nm, Option.bind, t_ret, t_andV, v_said_s hr hd hf, eqs_step, v_seen, e1, outT_rt, List.map_cons, List.map_nil, List.length_cons, List.length_nil, List.set, Nat.reduceAdd, Nat.reduceSub, Nat.reduceLT, if_true, if_false, List.getElem?_cons_zero, List.getElem?_cons_succ, bind_ok, opt_some, asB_bl, Bool.not_true, Bool.not_false, Bool.false_eq_true, a_var, a_rd, a_c, a_cons, a_nil, a_bin, a_fn, a_set, a_ret, a_snil, a_sIf, a_bV, t_P, t_eP, t_bP, t_nil, t_if, t_set, t_expr, t_seq, t_bV, t_bin, t_mt, t_fn, t_or, t_and, t_not]
theorem v_Lback_c (hd : dks ds 3 = true) (hf : dks fs 1 = true) (hp : dks past 4 = true) : m_L_back [.hdl 0, .hdl 3] (kt ws fs row (ds ++ [cdeed ws']) (.lst (past ++ [pdeed "change" (seenK ws' fs row)]) :: r)) = (.ok (.bl true), kt ws' fs row ds (.lst past :: r)) := by
  have hk := dk_pdeed (w := "change") (by decide +kernel) (dk_seen (ws := ws') (row := row) hf)
  have e0 := pnil hp hk
  have e1 := eq_self (dk_seen (ws := ws') (row := row) hf) (by omega)
  have e2 : D.eq (.str "change") (.str "change") = some (.bl true) := by rw [str_eq _ _ (by decide +kernel) (by decide +kernel), show (("change" : Str) == "change") = true by decide +kernel]
  have l0 : lim 0 = true := rfl
  have la := last_app past (pdeed "change" (seenK ws' fs row))
  have pe : pdeed "change" (seenK ws' fs row) = .tup [.str "change", seenK ws' fs row] := rfl
  rw [pe] at e0 la ⊢
  simp only [m_L_back, g_L_back, t_runT, a_start, List.cons_append, List.nil_append, List.replicate, List.append_nil, a_cv, map_ok, kt_rpast, a_lst, l0, e0, t_unp, t_popC, kt_past, la, drop_app, kt_spast, a_gtp, a_gcons, a_gnil, a_nm, Option.bind, t_ret, t_andV, v_said_c hd, e2, v_seen, e1, outT_rt, List.map_cons, List.map_nil, List.length_cons, List.length_nil, List.set, Nat.reduceAdd, Nat.reduceSub, Nat.reduceLT, if_true, if_false, List.getElem?_cons_zero, List.getElem?_cons_succ, bind_ok, opt_some, asB_bl, Bool.not_true, Bool.not_false, Bool.false_eq_true, a_var, a_rd, a_c, a_cons, a_nil, a_bin, a_fn, a_set, a_ret, a_snil, a_sIf, a_bV, t_P, t_eP, t_bP, t_nil, t_if, t_set, t_expr, t_seq, t_bV, t_bin, t_mt, t_fn, t_or, t_and, t_not]
theorem v_Lback_0 : m_L_back [.hdl 0, .hdl 3] (kt ws fs row [] (.lst [] :: r)) = (.ok (.bl true), kt ws fs row [] (.lst [] :: r)) := by
  have e0 : D.eq (.lst []) (.lst []) = some (.bl true) := eq_nil0 (n := 1) (by simp [dk, dks]) (by omega)
  have e2 : D.eq (.str "none") (.str "none") = some (.bl true) := by rw [str_eq _ _ (by decide +kernel) (by decide +kernel), show (("none" : Str) == "none") = true by decide +kernel]
  have l0 : lim 0 = true := rfl
  simp only [m_L_back, g_L_back, t_runT, a_start, List.cons_append, List.nil_append, List.replicate, List.append_nil, a_cv, map_ok, kt_rpast, a_lst, l0, e0, t_ret, v_said_0, e2, outT_rt, List.map_cons, List.map_nil, List.length_cons, List.length_nil, List.set, Nat.reduceAdd, Nat.reduceSub, Nat.reduceLT, if_true, if_false, List.getElem?_cons_zero, List.getElem?_cons_succ, bind_ok, opt_some, asB_bl, Bool.not_true, Bool.not_false, Bool.false_eq_true, a_var, a_rd, a_c, a_cons, a_nil, a_bin, a_fn, a_set, a_ret, a_snil, a_sIf, a_bV, t_P, t_eP, t_bP, t_nil, t_if, t_set, t_expr, t_seq, t_bV, t_bin, t_mt, t_fn, t_or, t_and, t_not]
/-- .. whatever it was -/
theorem v_Lback {n t : Nat} {ps : List P} (h : Chain n t ws fs ps row ds past) : ∃ ws1 fs1 ps1 row1 ds1 past1, Chain n (t - 1) ws1 fs1 ps1 row1 ds1 past1 ∧ m_L_back [.hdl 0, .hdl 3] (kt ws fs row ds (.lst past :: r)) = (.ok (.bl true), kt ws1 fs1 row1 ds1 (.lst past1 :: r)) := by
  cases h with
  | nil wt hn => exact ⟨_, _, _, _, _, _, .nil wt hn, v_Lback_0⟩
  | step h =>
    rename_i t0 row0 fs0 ds0 past0 ps0
    have k := h.ok
    refine ⟨_, _, _, _, _, _, h, ?_⟩
    have e := v_Lback_s (ws := ws) (fs := (pay (grow ws.sum ps0 ws) (best (grow ws.sum ps0 ws))).map fr) (row := row0 ++ [((best (grow ws.sum ps0 ws) : Nat) : Int)]) (r := r) (by simp) k.dk (dks_frs k.fr) k.pk
    rw [drop_app] at e
    exact e
  | chg h wt hl =>
    have k := h.ok
    exact ⟨_, _, _, _, _, _, h, v_Lback_c k.dk (dks_frs k.fr) k.pk⟩
end
end DL

namespace DL
open PySem PySem.Spec PyProof.Rows L2
open Fr

/-! ### a turn of the law -/
abbrev b32_0 : TS1 := (sP (fun mu => (sSet 5 (eFn m_L_draw (aCons (eVar 4) (aCons (eC (.int 30)) (aCons (eC (.int 5)) aNil)))))))
abbrev b32_1 : TS1 := (sP (fun mu => (sSet 6 (eFn (m_L_seen mu) (aCons (eVar 2) aNil)))))
abbrev b32_2 : TS1 := (sIfT (bP (fun mu => (bV (eBin D.lt (eRd 5) (eC (.int 2)))))) (sSeqT (sSetT 7 (eMtT "Credits" "step" m_Credits_step (fun mu => (eVar 2)) fun _ => aNil)) (sSeqT (sP (fun mu => (sSet 8 (eFn (m_L_seen mu) (aCons (eVar 2) aNil))))) (sSeqT (sIfT (bOrT (bVT (eBinT D.ne (eMtT "Credits" "back" m_Credits_back (fun mu => (eVar 2)) fun _ => aNil) (fun mu => (eC (.str "step"))))) (bOrT (bP (fun mu => (bV (eBin D.ne (eFn (m_L_seen mu) (aCons (eVar 2) aNil)) (eRd 6))))) (bVT (eBinT D.ne (eMtT "Credits" "step" m_Credits_step (fun mu => (eVar 2)) fun _ => aNil) (fun mu => (eRd 7)))))) (sP (fun mu => (sRet (eC (.bl false))))) sNilT) (sSeqT (sP (fun mu => (sIf (bV (eBin D.ne (eFn (m_L_seen mu) (aCons (eVar 2) aNil)) (eRd 8))) (sRet (eC (.bl false))) sNil))) (sAppC (fun mu => (eVar 3)) (fun mu => (eTup (aCons (eC (.str "step")) (aCons (eVar 6) aNil))))))))) (sIfT (bP (fun mu => (bV (eBin D.eq (eRd 5) (eC (.int 2)))))) (sSeqT (sExprT (eMtT "Credits" "change" m_Credits_change (fun mu => (eVar 2)) (fun mu => (aCons (eFn m_L_weights (aCons (eVar 4) (aCons (eVar 1) aNil))) aNil)))) (sAppC (fun mu => (eVar 3)) (fun mu => (eTup (aCons (eC (.str "change")) (aCons (eVar 6) aNil)))))) (sIfT (bNotT (bVT (eFnT m_L_back (fun mu => (aCons (eVar 2) (aCons (eVar 3) aNil)))))) (sP (fun mu => (sRet (eC (.bl false))))) sNilT)))
abbrev b32_3 : TS1 := (sP (fun mu => (sSet 9 (eLst (aCons (eC .non) (aCons (eLst aNil) (aCons (eBin D.mul (eLst (aCons (eC (.int 0)) aNil)) (eRd 1)) (aCons (eBin D.mul (eLst (aCons (eC (.int 1)) aNil)) (eBin D.add (eRd 1) (eC (.int 1)))) (aCons (eBin D.mul (eTup (aCons (eC (.int 1)) aNil)) (eRd 1)) (aCons (eBin D.mul (eLst (aCons (eC (.int 1001)) aNil)) (eRd 1)) (aCons (eBin D.mul (eLst (aCons (eC (.bl true)) aNil)) (eRd 1)) (aCons (eBin D.mul (eLst (aCons (eC (.str "1")) aNil)) (eRd 1)) aNil))))))))))))
abbrev b32_4 : TS1 := (sP (fun mu => (sSet 10 (eFn (m_L_seen mu) (aCons (eVar 2) aNil)))))
abbrev b32_5 : TS1 := (sP (fun mu => (sSet 11 (eC .non))))
abbrev b32_6 : TS1 := (sIfT (bP (fun mu => (bV (eBin D.eq (eFn m_L_draw (aCons (eVar 4) (aCons (eC (.int 33)) (aCons (eC (.int 2)) aNil)))) (eC (.int 0)))))) (sSetT 11 (eTupT (aConsT (eMtT "Credits" "step" m_Credits_step (fun mu => (eVar 2)) fun _ => aNil) (aConsT (eP (fun mu => (eFn (m_L_seen mu) (aCons (eVar 2) aNil)))) (aConsT (eMtT "Credits" "back" m_Credits_back (fun mu => (eVar 2)) fun _ => aNil) aNilT))))) sNilT)
abbrev b32_8b : TS1 := (sIfT (bOrT (bVT (eBinT D.ne (eFnT m_L_said (fun mu => (aCons (eVar 2) (aCons (eC (.int 1)) (aCons (eVar 12) aNil))))) (fun mu => (eC (.int 0))))) (bP (fun mu => (bV (eBin D.ne (eFn (m_L_seen mu) (aCons (eVar 2) aNil)) (eRd 10)))))) (sP (fun mu => (sRet (eC (.bl false))))) sNilT)
abbrev b32_7 : TS1 := (sForT (fun mu => (iL (eLst (aCons (eBin D.item (eRd 9) (eFn m_L_draw (aCons (eVar 4) (aCons (eC (.int 32)) (aCons (eC (.int 8)) aNil))))) (aCons (eBin D.add (eBin D.mul (eLst (aCons (eC (.int 1000)) aNil)) (eBin D.sub (eRd 1) (eC (.int 1)))) (eLst (aCons (eC (.int 1001)) aNil))) aNil))))) (gNm 12) (sIfT (bOrT (bVT (eBinT D.ne (eFnT m_L_said (fun mu => (aCons (eVar 2) (aCons (eC (.int 1)) (aCons (eVar 12) aNil))))) (fun mu => (eC (.int 0))))) (bP (fun mu => (bV (eBin D.ne (eFn (m_L_seen mu) (aCons (eVar 2) aNil)) (eRd 10)))))) (sP (fun mu => (sRet (eC (.bl false))))) sNilT))
abbrev b32_8 : TS1 := (sIfT (bAndT (bP (fun mu => (bV (eBin D.notN (eRd 11) (eC .non))))) (bVT (eBinT D.ne (eTupT (aConsT (eMtT "Credits" "step" m_Credits_step (fun mu => (eVar 2)) fun _ => aNil) (aConsT (eP (fun mu => (eFn (m_L_seen mu) (aCons (eVar 2) aNil)))) (aConsT (eMtT "Credits" "back" m_Credits_back (fun mu => (eVar 2)) fun _ => aNil) aNilT)))) (fun mu => (eRd 11))))) (sP (fun mu => (sRet (eC (.bl false))))) sNilT)
abbrev b32_9 : TS1 := (sP (fun mu => (sIf (bV (eBin D.ne (eFn (m_L_seen mu) (aCons (eVar 2) aNil)) (eRd 10))) (sRet (eC (.bl false))) sNil)))
abbrev b32 : TS1 := (sSeqT (sP (fun mu => (sSet 5 (eFn m_L_draw (aCons (eVar 4) (aCons (eC (.int 30)) (aCons (eC (.int 5)) aNil))))))) (sSeqT (sP (fun mu => (sSet 6 (eFn (m_L_seen mu) (aCons (eVar 2) aNil))))) (sSeqT (sIfT (bP (fun mu => (bV (eBin D.lt (eRd 5) (eC (.int 2)))))) (sSeqT (sSetT 7 (eMtT "Credits" "step" m_Credits_step (fun mu => (eVar 2)) fun _ => aNil)) (sSeqT (sP (fun mu => (sSet 8 (eFn (m_L_seen mu) (aCons (eVar 2) aNil))))) (sSeqT (sIfT (bOrT (bVT (eBinT D.ne (eMtT "Credits" "back" m_Credits_back (fun mu => (eVar 2)) fun _ => aNil) (fun mu => (eC (.str "step"))))) (bOrT (bP (fun mu => (bV (eBin D.ne (eFn (m_L_seen mu) (aCons (eVar 2) aNil)) (eRd 6))))) (bVT (eBinT D.ne (eMtT "Credits" "step" m_Credits_step (fun mu => (eVar 2)) fun _ => aNil) (fun mu => (eRd 7)))))) (sP (fun mu => (sRet (eC (.bl false))))) sNilT) (sSeqT (sP (fun mu => (sIf (bV (eBin D.ne (eFn (m_L_seen mu) (aCons (eVar 2) aNil)) (eRd 8))) (sRet (eC (.bl false))) sNil))) (sAppC (fun mu => (eVar 3)) (fun mu => (eTup (aCons (eC (.str "step")) (aCons (eVar 6) aNil))))))))) (sIfT (bP (fun mu => (bV (eBin D.eq (eRd 5) (eC (.int 2)))))) (sSeqT (sExprT (eMtT "Credits" "change" m_Credits_change (fun mu => (eVar 2)) (fun mu => (aCons (eFn m_L_weights (aCons (eVar 4) (aCons (eVar 1) aNil))) aNil)))) (sAppC (fun mu => (eVar 3)) (fun mu => (eTup (aCons (eC (.str "change")) (aCons (eVar 6) aNil)))))) (sIfT (bNotT (bVT (eFnT m_L_back (fun mu => (aCons (eVar 2) (aCons (eVar 3) aNil)))))) (sP (fun mu => (sRet (eC (.bl false))))) sNilT))) (sSeqT (sP (fun mu => (sSet 9 (eLst (aCons (eC .non) (aCons (eLst aNil) (aCons (eBin D.mul (eLst (aCons (eC (.int 0)) aNil)) (eRd 1)) (aCons (eBin D.mul (eLst (aCons (eC (.int 1)) aNil)) (eBin D.add (eRd 1) (eC (.int 1)))) (aCons (eBin D.mul (eTup (aCons (eC (.int 1)) aNil)) (eRd 1)) (aCons (eBin D.mul (eLst (aCons (eC (.int 1001)) aNil)) (eRd 1)) (aCons (eBin D.mul (eLst (aCons (eC (.bl true)) aNil)) (eRd 1)) (aCons (eBin D.mul (eLst (aCons (eC (.str "1")) aNil)) (eRd 1)) aNil)))))))))))) (sSeqT (sP (fun mu => (sSet 10 (eFn (m_L_seen mu) (aCons (eVar 2) aNil))))) (sSeqT (sP (fun mu => (sSet 11 (eC .non)))) (sSeqT (sIfT (bP (fun mu => (bV (eBin D.eq (eFn m_L_draw (aCons (eVar 4) (aCons (eC (.int 33)) (aCons (eC (.int 2)) aNil)))) (eC (.int 0)))))) (sSetT 11 (eTupT (aConsT (eMtT "Credits" "step" m_Credits_step (fun mu => (eVar 2)) fun _ => aNil) (aConsT (eP (fun mu => (eFn (m_L_seen mu) (aCons (eVar 2) aNil)))) (aConsT (eMtT "Credits" "back" m_Credits_back (fun mu => (eVar 2)) fun _ => aNil) aNilT))))) sNilT) (sSeqT (sForT (fun mu => (iL (eLst (aCons (eBin D.item (eRd 9) (eFn m_L_draw (aCons (eVar 4) (aCons (eC (.int 32)) (aCons (eC (.int 8)) aNil))))) (aCons (eBin D.add (eBin D.mul (eLst (aCons (eC (.int 1000)) aNil)) (eBin D.sub (eRd 1) (eC (.int 1)))) (eLst (aCons (eC (.int 1001)) aNil))) aNil))))) (gNm 12) (sIfT (bOrT (bVT (eBinT D.ne (eFnT m_L_said (fun mu => (aCons (eVar 2) (aCons (eC (.int 1)) (aCons (eVar 12) aNil))))) (fun mu => (eC (.int 0))))) (bP (fun mu => (bV (eBin D.ne (eFn (m_L_seen mu) (aCons (eVar 2) aNil)) (eRd 10)))))) (sP (fun mu => (sRet (eC (.bl false))))) sNilT)) (sSeqT (sIfT (bAndT (bP (fun mu => (bV (eBin D.notN (eRd 11) (eC .non))))) (bVT (eBinT D.ne (eTupT (aConsT (eMtT "Credits" "step" m_Credits_step (fun mu => (eVar 2)) fun _ => aNil) (aConsT (eP (fun mu => (eFn (m_L_seen mu) (aCons (eVar 2) aNil)))) (aConsT (eMtT "Credits" "back" m_Credits_back (fun mu => (eVar 2)) fun _ => aNil) aNilT)))) (fun mu => (eRd 11))))) (sP (fun mu => (sRet (eC (.bl false))))) sNilT) (sP (fun mu => (sIf (bV (eBin D.ne (eFn (m_L_seen mu) (aCons (eVar 2) aNil)) (eRd 10))) (sRet (eC (.bl false))) sNil))))))))))))
abbrev c32 : TS1 := (sIfT (bNotT (bVT (eFnT m_L_back (fun mu => (aCons (eVar 2) (aCons (eVar 3) aNil)))))) (sP (fun mu => (sRet (eC (.bl false))))) sNilT)

section
variable {n t : Nat} {ws row : List Int} {fs ds past : List D} {ps : List P} {r : Tbl} {x0 : Option Sl} {c w : Int} {a7 a8 a9 a10 a11 a12 a13 : Option Sl}
/-- a step, its taking back, all from one chain -/
theorem Chain.stp (C : Chain n t ws fs ps row ds past) (ht : t ≤ 38) (R : Tbl) : ∃ b : Int, ∃ F : List D, (m_Credits_step [.hdl 0] (kt ws fs row ds R) = (.ok (.int b), kt ws F (row ++ [b]) (ds ++ [sdeed fs]) R)) ∧ Chain n (t + 1) ws F (pay (grow ws.sum ps ws) (best (grow ws.sum ps ws))) (row ++ [b]) (ds ++ [sdeed fs]) (past ++ [pdeed "step" (seenK ws fs row)])
    ∧ m_Credits_back [.hdl 0] (kt ws F (row ++ [b]) (ds ++ [sdeed fs]) R) = (.ok (.str "step"), kt ws fs row ds R) := by
  have k := C.ok
  refine ⟨_, _, v_step (t := t + 1) (by omega) (by have := k.rl; omega) (by have := k.dl; omega) k.st k.fr, .step C, ?_⟩
  have e := v_back_s (ws := ws) (fs := (pay (grow ws.sum ps ws) (best (grow ws.sum ps ws))).map fr) (row := row ++ [((best (grow ws.sum ps ws) : Nat) : Int)]) (R := R) (by simp) k.dk (dks_frs k.fr)
  rw [drop_app] at e
  exact e
theorem nes_step : D.ne (.str "step") (.str "step") = some (.bl false) := by rw [str_ne _ _ (by decide +kernel) (by decide +kernel), show (("step" : Str) == "step") = true by decide +kernel]; rfl
theorem ne_i (b : Int) : D.ne (.int b) (.int b) = some (.bl false) := by rw [p_nei, decide_eq_true rfl]; rfl
theorem turnA0 (C : Chain n t ws fs ps row ds past) (ht : t ≤ 38) (hw : w < 2) : ∃ t1 ws1 fs1 ps1 row1 ds1 past1 b7 b8, t1 ≤ t + 1 ∧ Chain n t1 ws1 fs1 ps1 row1 ds1 past1 ∧
    b32_2 (kt ws fs row ds (.lst past :: r)) [x0, some (.sh (.int (n : Int))), some (.sh (.hdl 0)), some (.sh (.hdl 3)), some (.sh (.int c)), some (.sh (.int w)), some (.sh (seenK ws fs row)), a7, a8, a9, a10, a11, a12, a13] = (.nx [x0, some (.sh (.int (n : Int))), some (.sh (.hdl 0)), some (.sh (.hdl 3)), some (.sh (.int c)), some (.sh (.int w)), some (.sh (seenK ws fs row)), b7, b8, a9, a10, a11, a12, a13], kt ws1 fs1 row1 ds1 (.lst past1 :: r)) := by
  have k := C.ok
  obtain ⟨b, F, e1, C1, e2⟩ := C.stp ht (.lst past :: r)
  have k1 := C1.ok
  have q0 : decide (w < 2) = true := decide_eq_true hw
  have n0 := ne_self (dk_seen (ws := ws) (row := row) (dks_frs k.fr)) (by omega)
  have n1 := ne_self (dk_seen (ws := ws) (row := row ++ [b]) (dks_frs k1.fr)) (by omega)
  have lp : lim past.length = true := decide_eq_true (by have := k.pl; omega)
  have l2 : lim 2 = true := rfl
  refine ⟨t + 1, _, _, _, _, _, _, some (.sh (.int b)), some (.sh (seenK ws F (row ++ [b]))), Nat.le_refl _, C1, ?_⟩
  simp only [b32_2, p_cmp, q0, canM_kt noM_step, canM_kt noM_back, e1, e2, v_seen, nes_step, n0, n1, ne_i, t_appC, kt_past, a_tup, l2, lp, kt_spast, pdeed, List.map_cons, List.map_nil, List.length_cons, List.length_nil, List.set, Nat.reduceAdd, Nat.reduceSub, Nat.reduceLT, if_true, if_false, List.getElem?_cons_zero, List.getElem?_cons_succ, bind_ok, opt_some, asB_bl, Bool.not_true, Bool.not_false, Bool.false_eq_true, a_var, a_rd, a_c, a_cons, a_nil, a_bin, a_fn, a_set, a_ret, a_snil, a_sIf, a_bV, t_P, t_eP, t_bP, t_nil, t_if, t_set, t_expr, t_seq, t_bV, t_bin, t_mt, t_fn, t_or, t_and, t_not]
theorem turnA1 (C : Chain n t ws fs ps row ds past) (ht : t ≤ 38) (h1 : 1 ≤ n) (h2 : n ≤ 5) (hw : w = 2) : ∃ t1 ws1 fs1 ps1 row1 ds1 past1 b7 b8, t1 ≤ t + 1 ∧ Chain n t1 ws1 fs1 ps1 row1 ds1 past1 ∧
    b32_2 (kt ws fs row ds (.lst past :: r)) [x0, some (.sh (.int (n : Int))), some (.sh (.hdl 0)), some (.sh (.hdl 3)), some (.sh (.int c)), some (.sh (.int w)), some (.sh (seenK ws fs row)), a7, a8, a9, a10, a11, a12, a13] = (.nx [x0, some (.sh (.int (n : Int))), some (.sh (.hdl 0)), some (.sh (.hdl 3)), some (.sh (.int c)), some (.sh (.int w)), some (.sh (seenK ws fs row)), b7, b8, a9, a10, a11, a12, a13], kt ws1 fs1 row1 ds1 (.lst past1 :: r)) := by
  have k := C.ok
  obtain ⟨us, lu, wt, ew⟩ := v_weights c (n := (n : Int)) (by omega) (by omega)
  have q0 : decide (w < 2) = false := decide_eq_false (by omega)
  have q1 : D.eq (.int w) (.int 2) = some (.bl true) := by rw [p_eqi, decide_eq_true hw]
  have e1 := v_change (ws := ws) (fs := fs) (row := row) (ds := ds) (R := .lst past :: r) (us := us) (by have := k.dl; omega) wt (by have := k.ln; omega)
  have lp : lim past.length = true := decide_eq_true (by have := k.pl; omega)
  have l2 : lim 2 = true := rfl
  refine ⟨t + 1, _, _, _, _, _, _, a7, a8, Nat.le_refl _, .chg C wt (by omega), ?_⟩
  simp only [b32_2, p_cmp, q0, q1, ew, canM_kt noM_change, e1, t_appC, kt_past, a_tup, l2, lp, kt_spast, pdeed, List.map_cons, List.map_nil, List.length_cons, List.length_nil, List.set, Nat.reduceAdd, Nat.reduceSub, Nat.reduceLT, if_true, if_false, List.getElem?_cons_zero, List.getElem?_cons_succ, bind_ok, opt_some, asB_bl, Bool.not_true, Bool.not_false, Bool.false_eq_true, a_var, a_rd, a_c, a_cons, a_nil, a_bin, a_fn, a_set, a_ret, a_snil, a_sIf, a_bV, t_P, t_eP, t_bP, t_nil, t_if, t_set, t_expr, t_seq, t_bV, t_bin, t_mt, t_fn, t_or, t_and, t_not]
theorem turnA2 (C : Chain n t ws fs ps row ds past) (hw : 2 < w) : ∃ t1 ws1 fs1 ps1 row1 ds1 past1 b7 b8, t1 ≤ t + 1 ∧ Chain n t1 ws1 fs1 ps1 row1 ds1 past1 ∧
    b32_2 (kt ws fs row ds (.lst past :: r)) [x0, some (.sh (.int (n : Int))), some (.sh (.hdl 0)), some (.sh (.hdl 3)), some (.sh (.int c)), some (.sh (.int w)), some (.sh (seenK ws fs row)), a7, a8, a9, a10, a11, a12, a13] = (.nx [x0, some (.sh (.int (n : Int))), some (.sh (.hdl 0)), some (.sh (.hdl 3)), some (.sh (.int c)), some (.sh (.int w)), some (.sh (seenK ws fs row)), b7, b8, a9, a10, a11, a12, a13], kt ws1 fs1 row1 ds1 (.lst past1 :: r)) := by
  obtain ⟨ws1, fs1, ps1, row1, ds1, past1, C1, e1⟩ := v_Lback (r := r) C
  have q0 : decide (w < 2) = false := decide_eq_false (by omega)
  have q1 : D.eq (.int w) (.int 2) = some (.bl false) := by rw [p_eqi, decide_eq_false (by omega)]
  refine ⟨t - 1, ws1, fs1, ps1, row1, ds1, past1, a7, a8, by omega, C1, ?_⟩
  simp only [b32_2, p_cmp, q0, q1, e1, List.map_cons, List.map_nil, List.length_cons, List.length_nil, List.set, Nat.reduceAdd, Nat.reduceSub, Nat.reduceLT, if_true, if_false, List.getElem?_cons_zero, List.getElem?_cons_succ, bind_ok, opt_some, asB_bl, Bool.not_true, Bool.not_false, Bool.false_eq_true, a_var, a_rd, a_c, a_cons, a_nil, a_bin, a_fn, a_set, a_ret, a_snil, a_sIf, a_bV, t_P, t_eP, t_bP, t_nil, t_if, t_set, t_expr, t_seq, t_bV, t_bin, t_mt, t_fn, t_or, t_and, t_not]
theorem turnA (C : Chain n t ws fs ps row ds past) (ht : t ≤ 38) (h1 : 1 ≤ n) (h2 : n ≤ 5) : ∃ t1 ws1 fs1 ps1 row1 ds1 past1 b7 b8, t1 ≤ t + 1 ∧ Chain n t1 ws1 fs1 ps1 row1 ds1 past1 ∧
    b32_2 (kt ws fs row ds (.lst past :: r)) [x0, some (.sh (.int (n : Int))), some (.sh (.hdl 0)), some (.sh (.hdl 3)), some (.sh (.int c)), some (.sh (.int w)), some (.sh (seenK ws fs row)), a7, a8, a9, a10, a11, a12, a13] = (.nx [x0, some (.sh (.int (n : Int))), some (.sh (.hdl 0)), some (.sh (.hdl 3)), some (.sh (.int c)), some (.sh (.int w)), some (.sh (seenK ws fs row)), b7, b8, a9, a10, a11, a12, a13], kt ws1 fs1 row1 ds1 (.lst past1 :: r)) := by
  by_cases q : w < 2
  · exact turnA0 C ht q
  · by_cases q2 : w = 2
    · exact turnA1 C ht h1 h2 q2
    · exact turnA2 C (by omega)
/-- what makes no weights -/
def oddL (n : Nat) : List D := [.non, .lst [], .lst (List.replicate n (.int 0)), .lst (List.replicate (n + 1) (.int 1)), .tup (List.replicate n (.int 1)), .lst (List.replicate n (.int 1001)), .lst (List.replicate n (.bl true)), .lst (List.replicate n (.str "1"))]
theorem odd_at {j : Int} (h1 : 1 ≤ n) (h2 : n ≤ 5) (h3 : 0 ≤ j) (h4 : j < 8) : ∃ d, D.item (.lst (oddL n)) (.int j) = some d ∧ NoW n d := by
  have hj : j = 0 ∨ j = 1 ∨ j = 2 ∨ j = 3 ∨ j = 4 ∨ j = 5 ∨ j = 6 ∨ j = 7 := by omega
  rcases hj with h | h | h | h | h | h | h | h <;> subst h
  · exact ⟨_, rfl, .inl rfl⟩
  · exact ⟨_, rfl, .inl rfl⟩
  · exact ⟨_, rfl, .inl (by rcases many_cases h1 h2 with h | h | h | h | h <;> subst h <;> rfl)⟩
  · refine ⟨_, rfl, ?_⟩
    by_cases q : n = 5
    · subst q
      exact .inr ⟨rfl, 6, by decide, rfl⟩
    · refine .inr ⟨?_, n + 1, by omega, ?_⟩
      · rcases many_cases h1 h2 with h | h | h | h | h <;> subst h <;> rfl
      · rcases many_cases h1 h2 with h | h | h | h | h <;> subst h <;> rfl
  · exact ⟨_, rfl, .inl (by rcases many_cases h1 h2 with h | h | h | h | h <;> subst h <;> rfl)⟩
  · exact ⟨_, rfl, .inl (by rcases many_cases h1 h2 with h | h | h | h | h <;> subst h <;> rfl)⟩
  · exact ⟨_, rfl, .inl (by rcases many_cases h1 h2 with h | h | h | h | h <;> subst h <;> rfl)⟩
  · exact ⟨_, rfl, .inl (by rcases many_cases h1 h2 with h | h | h | h | h <;> subst h <;> rfl)⟩
def bigL (n : Nat) : List D := List.replicate (n - 1) (.int 1000) ++ [.int 1001]
theorem big_no (h1 : 1 ≤ n) (h2 : n ≤ 5) : NoW n (.lst (bigL n)) := .inl (by rcases many_cases h1 h2 with h | h | h | h | h <;> subst h <;> rfl)
theorem big_add (h1 : 1 ≤ n) (h2 : n ≤ 5) : D.add (.lst (List.replicate (n - 1) (.int 1000))) (.lst [.int 1001]) = some (.lst (bigL n)) := by rcases many_cases h1 h2 with h | h | h | h | h <;> subst h <;> rfl
end
end DL

namespace DL
open PySem PySem.Spec PyProof.Rows L2
open Fr

section
variable {n t : Nat} {ws row : List Int} {fs ds past : List D} {ps : List P} {r : Tbl} {x0 : Option Sl} {c w : Int} {a5 a6 a7 a8 a9 a10 a11 a12 a13 b12 : Option Sl}
theorem turnB3 (h1 : 1 ≤ n) (h2 : n ≤ 5) : b32_3 (kt ws fs row ds (.lst past :: r)) [x0, some (.sh (.int (n : Int))), some (.sh (.hdl 0)), some (.sh (.hdl 3)), some (.sh (.int c)), a5, a6, a7, a8, a9, a10, a11, a12, a13] = (.nx [x0, some (.sh (.int (n : Int))), some (.sh (.hdl 0)), some (.sh (.hdl 3)), some (.sh (.int c)), a5, a6, a7, a8, some (.sh (.lst (oddL n))), a10, a11, a12, a13], kt ws fs row ds (.lst past :: r)) := by
  have l0 : lim 0 = true := rfl
  have l1 : lim 1 = true := rfl
  have l8 : lim 8 = true := rfl
  have m0 := mul_lst (.int 0) (n := n) (by omega)
  have m1 : D.mul (.lst [.int 1]) (.int ((n : Int) + 1)) = some (.lst (List.replicate (n + 1) (.int 1))) := by
    rw [show ((n : Int) + 1) = ((n + 1 : Nat) : Int) by omega]
    exact mul_lst (.int 1) (n := n + 1) (by omega)
  have m2 := mul_tup (.int 1) h1 h2
  have m3 := mul_lst (.int 1001) (n := n) (by omega)
  have m4 := mul_lst (.bl true) (n := n) (by omega)
  have m5 := mul_lst (.str "1") (n := n) (by omega)
  have c4 : (eBin D.mul (eLst (aCons (eC (.int 1)) aNil)) (eBin D.add (eRd 1) (eC (.int 1)))) [x0, some (.sh (.int (n : Int))), some (.sh (.hdl 0)), some (.sh (.hdl 3)), some (.sh (.int c)), a5, a6, a7, a8, a9, a10, a11, a12, a13] = .ok (.lst (List.replicate (n + 1) (.int 1))) := by
    have e1 : (eLst (aCons (eC (.int 1)) aNil)) [x0, some (.sh (.int (n : Int))), some (.sh (.hdl 0)), some (.sh (.hdl 3)), some (.sh (.int c)), a5, a6, a7, a8, a9, a10, a11, a12, a13] = .ok (.lst [.int 1]) := rfl
    have e2 : (eBin D.add (eRd 1) (eC (.int 1))) [x0, some (.sh (.int (n : Int))), some (.sh (.hdl 0)), some (.sh (.hdl 3)), some (.sh (.int c)), a5, a6, a7, a8, a9, a10, a11, a12, a13] = .ok (.int ((n : Int) + 1)) := rfl
    rw [a_bin, e1, bind_ok, e2, bind_ok, m1, opt_some]
  generalize hz : eBin D.mul (eLst (aCons (eC (.int 1)) aNil)) (eBin D.add (eRd 1) (eC (.int 1))) = z at c4
  have e : (eLst (aCons (eC .non) (aCons (eLst aNil) (aCons (eBin D.mul (eLst (aCons (eC (.int 0)) aNil)) (eRd 1)) (aCons z (aCons (eBin D.mul (eTup (aCons (eC (.int 1)) aNil)) (eRd 1)) (aCons (eBin D.mul (eLst (aCons (eC (.int 1001)) aNil)) (eRd 1)) (aCons (eBin D.mul (eLst (aCons (eC (.bl true)) aNil)) (eRd 1)) (aCons (eBin D.mul (eLst (aCons (eC (.str "1")) aNil)) (eRd 1)) aNil))))))))) [x0, some (.sh (.int (n : Int))), some (.sh (.hdl 0)), some (.sh (.hdl 3)), some (.sh (.int c)), a5, a6, a7, a8, a9, a10, a11, a12, a13] = .ok (.lst (oddL n)) := by
    simp only [a_lst, a_tup, a_cons, a_nil, a_c, a_bin, a_rd, List.getElem?_cons_zero, List.getElem?_cons_succ, bind_ok, opt_some, List.length_cons, List.length_nil, Nat.reduceAdd, if_true, l0, l1, l8, m0, m1, m2, m3, m4, m5, c4]
    rfl
  subst hz
  simp only [b32_3, t_P, a_set, e, List.set]
theorem turnB4 : b32_4 (kt ws fs row ds (.lst past :: r)) [x0, some (.sh (.int (n : Int))), some (.sh (.hdl 0)), some (.sh (.hdl 3)), some (.sh (.int c)), a5, a6, a7, a8, a9, a10, a11, a12, a13] = (.nx [x0, some (.sh (.int (n : Int))), some (.sh (.hdl 0)), some (.sh (.hdl 3)), some (.sh (.int c)), a5, a6, a7, a8, a9, some (.sh (seenK ws fs row)), a11, a12, a13], kt ws fs row ds (.lst past :: r)) := by
  simp only [b32_4, v_seen, List.map_cons, List.map_nil, List.length_cons, List.length_nil, List.set, Nat.reduceAdd, Nat.reduceSub, Nat.reduceLT, if_true, if_false, List.getElem?_cons_zero, List.getElem?_cons_succ, bind_ok, opt_some, asB_bl, Bool.not_true, Bool.not_false, Bool.false_eq_true, a_var, a_rd, a_c, a_cons, a_nil, a_bin, a_fn, a_set, a_ret, a_snil, a_sIf, a_bV, t_P, t_eP, t_bP, t_nil, t_if, t_set, t_expr, t_seq, t_bV, t_bin, t_mt, t_fn, t_or, t_and, t_not]
theorem turnB5 : b32_5 (kt ws fs row ds (.lst past :: r)) [x0, some (.sh (.int (n : Int))), some (.sh (.hdl 0)), some (.sh (.hdl 3)), some (.sh (.int c)), a5, a6, a7, a8, a9, a10, a11, a12, a13] = (.nx [x0, some (.sh (.int (n : Int))), some (.sh (.hdl 0)), some (.sh (.hdl 3)), some (.sh (.int c)), a5, a6, a7, a8, a9, a10, some (.sh .non), a12, a13], kt ws fs row ds (.lst past :: r)) := by
  simp only [b32_5, List.map_cons, List.map_nil, List.length_cons, List.length_nil, List.set, Nat.reduceAdd, Nat.reduceSub, Nat.reduceLT, if_true, if_false, List.getElem?_cons_zero, List.getElem?_cons_succ, bind_ok, opt_some, asB_bl, Bool.not_true, Bool.not_false, Bool.false_eq_true, a_var, a_rd, a_c, a_cons, a_nil, a_bin, a_fn, a_set, a_ret, a_snil, a_sIf, a_bV, t_P, t_eP, t_bP, t_nil, t_if, t_set, t_expr, t_seq, t_bV, t_bin, t_mt, t_fn, t_or, t_and, t_not]
/-- what is held, is it seen again -/
def coming (c : D) (ws : List Int) (fs : List D) (row : List Int) : Prop := c = .non ∨ ∃ b F, c = .tup [.int b, seenK ws F (row ++ [b]), .str "step"] ∧ dks F 1 = true
theorem turnB6 (C : Chain n t ws fs ps row ds past) (ht : t ≤ 38) : ∃ co, b32_6 (kt ws fs row ds (.lst past :: r)) [x0, some (.sh (.int (n : Int))), some (.sh (.hdl 0)), some (.sh (.hdl 3)), some (.sh (.int c)), a5, a6, a7, a8, some (.sh (.lst (oddL n))), some (.sh (seenK ws fs row)), some (.sh .non), a12, a13] = (.nx [x0, some (.sh (.int (n : Int))), some (.sh (.hdl 0)), some (.sh (.hdl 3)), some (.sh (.int c)), a5, a6, a7, a8, some (.sh (.lst (oddL n))), some (.sh (seenK ws fs row)), some (.sh co), a12, a13], kt ws fs row ds (.lst past :: r)) ∧
    b32_8 (kt ws fs row ds (.lst past :: r)) [x0, some (.sh (.int (n : Int))), some (.sh (.hdl 0)), some (.sh (.hdl 3)), some (.sh (.int c)), a5, a6, a7, a8, some (.sh (.lst (oddL n))), some (.sh (seenK ws fs row)), some (.sh co), b12, a13] = (.nx [x0, some (.sh (.int (n : Int))), some (.sh (.hdl 0)), some (.sh (.hdl 3)), some (.sh (.int c)), a5, a6, a7, a8, some (.sh (.lst (oddL n))), some (.sh (seenK ws fs row)), some (.sh co), b12, a13], kt ws fs row ds (.lst past :: r)) := by
  obtain ⟨d, d0, d1, ed⟩ := v_draw c (k := 33) (b := 2) (by decide) (by decide) (by decide) (by decide)
  obtain ⟨b, F, e1, C1, e2⟩ := C.stp ht (.lst past :: r)
  have k1 := C1.ok
  have l3 : lim 3 = true := rfl
  by_cases q : d = 0
  · have q0 : D.eq (.int d) (.int 0) = some (.bl true) := by rw [p_eqi, decide_eq_true q]
    have n1 : D.ne (.tup [.int b, seenK ws F (row ++ [b]), .str "step"]) (.tup [.int b, seenK ws F (row ++ [b]), .str "step"]) = some (.bl false) := ne_self (n := 4) (by
      have e : PyData.canLay0 (.str "step") = true := by decide +kernel
      simp only [dk, dks, dk_seen (dks_frs k1.fr), e, Bool.and_self]) (by omega)
    have nn : D.notN (.tup [.int b, seenK ws F (row ++ [b]), .str "step"]) .non = some (.bl true) := rfl
    refine ⟨.tup [.int b, seenK ws F (row ++ [b]), .str "step"], ?_, ?_⟩
    · simp only [b32_6, ed, q0, canM_kt noM_step, canM_kt noM_back, e1, e2, v_seen, t_tupV, t_aCons, t_aNil, l3, List.map_cons, List.map_nil, List.length_cons, List.length_nil, List.set, Nat.reduceAdd, Nat.reduceSub, Nat.reduceLT, if_true, if_false, List.getElem?_cons_zero, List.getElem?_cons_succ, bind_ok, opt_some, asB_bl, Bool.not_true, Bool.not_false, Bool.false_eq_true, a_var, a_rd, a_c, a_cons, a_nil, a_bin, a_fn, a_set, a_ret, a_snil, a_sIf, a_bV, t_P, t_eP, t_bP, t_nil, t_if, t_set, t_expr, t_seq, t_bV, t_bin, t_mt, t_fn, t_or, t_and, t_not]
    · simp only [b32_8, nn, canM_kt noM_step, canM_kt noM_back, e1, e2, v_seen, t_tupV, t_aCons, t_aNil, l3, n1, List.map_cons, List.map_nil, List.length_cons, List.length_nil, List.set, Nat.reduceAdd, Nat.reduceSub, Nat.reduceLT, if_true, if_false, List.getElem?_cons_zero, List.getElem?_cons_succ, bind_ok, opt_some, asB_bl, Bool.not_true, Bool.not_false, Bool.false_eq_true, a_var, a_rd, a_c, a_cons, a_nil, a_bin, a_fn, a_set, a_ret, a_snil, a_sIf, a_bV, t_P, t_eP, t_bP, t_nil, t_if, t_set, t_expr, t_seq, t_bV, t_bin, t_mt, t_fn, t_or, t_and, t_not]
  · have q0 : D.eq (.int d) (.int 0) = some (.bl false) := by rw [p_eqi, decide_eq_false q]
    have nn : D.notN .non .non = some (.bl false) := rfl
    refine ⟨.non, ?_, ?_⟩
    · simp only [b32_6, ed, q0, List.map_cons, List.map_nil, List.length_cons, List.length_nil, List.set, Nat.reduceAdd, Nat.reduceSub, Nat.reduceLT, if_true, if_false, List.getElem?_cons_zero, List.getElem?_cons_succ, bind_ok, opt_some, asB_bl, Bool.not_true, Bool.not_false, Bool.false_eq_true, a_var, a_rd, a_c, a_cons, a_nil, a_bin, a_fn, a_set, a_ret, a_snil, a_sIf, a_bV, t_P, t_eP, t_bP, t_nil, t_if, t_set, t_expr, t_seq, t_bV, t_bin, t_mt, t_fn, t_or, t_and, t_not]
    · simp only [b32_8, nn, List.map_cons, List.map_nil, List.length_cons, List.length_nil, List.set, Nat.reduceAdd, Nat.reduceSub, Nat.reduceLT, if_true, if_false, List.getElem?_cons_zero, List.getElem?_cons_succ, bind_ok, opt_some, asB_bl, Bool.not_true, Bool.not_false, Bool.false_eq_true, a_var, a_rd, a_c, a_cons, a_nil, a_bin, a_fn, a_set, a_ret, a_snil, a_sIf, a_bV, t_P, t_eP, t_bP, t_nil, t_if, t_set, t_expr, t_seq, t_bV, t_bin, t_mt, t_fn, t_or, t_and, t_not]
theorem turnB7 (C : Chain n t ws fs ps row ds past) (h1 : 1 ≤ n) (h2 : n ≤ 5) (co : D) : b32_7 (kt ws fs row ds (.lst past :: r)) [x0, some (.sh (.int (n : Int))), some (.sh (.hdl 0)), some (.sh (.hdl 3)), some (.sh (.int c)), a5, a6, a7, a8, some (.sh (.lst (oddL n))), some (.sh (seenK ws fs row)), some (.sh co), a12, a13] = (.nx [x0, some (.sh (.int (n : Int))), some (.sh (.hdl 0)), some (.sh (.hdl 3)), some (.sh (.int c)), a5, a6, a7, a8, some (.sh (.lst (oddL n))), some (.sh (seenK ws fs row)), some (.sh co), some (.sh (.lst (bigL n))), a13], kt ws fs row ds (.lst past :: r)) := by
  have k := C.ok
  obtain ⟨j, j0, j1, ed⟩ := v_draw c (k := 32) (b := 8) (by decide) (by decide) (by decide) (by decide)
  obtain ⟨d, e1, hd⟩ := odd_at h1 h2 j0 j1
  have m0 : D.mul (.lst [.int 1000]) (.int ((n : Int) - 1)) = some (.lst (List.replicate (n - 1) (.int 1000))) := by
    rw [show ((n : Int) - 1) = ((n - 1 : Nat) : Int) by omega]
    exact mul_lst _ (by omega)
  have m1 := big_add h1 h2
  have l1 : lim 1 = true := rfl
  have l2 : lim 2 = true := rfl
  have n0 : D.ne (.int 0) (.int 0) = some (.bl false) := by rw [p_nei]; rfl
  have n1 := ne_self (dk_seen (ws := ws) (row := row) (dks_frs k.fr)) (by omega)
  have sa := v_said_1 (ws := ws) (fs := fs) (row := row) (ds := ds) (R := .lst past :: r) (d := d) (by rw [k.ln]; exact hd)
  have sb := v_said_1 (ws := ws) (fs := fs) (row := row) (ds := ds) (R := .lst past :: r) (d := .lst (bigL n)) (by rw [k.ln]; exact big_no h1 h2)
  simp only [b32_7, t_for, a_iL, a_lst, ed, e1, p_sub, m0, m1, l1, l2, flT, a_nm, sa, sb, n0, v_seen, n1, List.map_cons, List.map_nil, List.length_cons, List.length_nil, List.set, Nat.reduceAdd, Nat.reduceSub, Nat.reduceLT, if_true, if_false, List.getElem?_cons_zero, List.getElem?_cons_succ, bind_ok, opt_some, asB_bl, Bool.not_true, Bool.not_false, Bool.false_eq_true, a_var, a_rd, a_c, a_cons, a_nil, a_bin, a_fn, a_set, a_ret, a_snil, a_sIf, a_bV, t_P, t_eP, t_bP, t_nil, t_if, t_set, t_expr, t_seq, t_bV, t_bin, t_mt, t_fn, t_or, t_and, t_not]
theorem turn (C : Chain n t ws fs ps row ds past) (ht : t ≤ 37) (h1 : 1 ≤ n) (h2 : n ≤ 5) : ∃ t1 ws1 fs1 ps1 row1 ds1 past1 b5 b6 b7 b8 b9 b10 b11 b12, t1 ≤ t + 1 ∧ Chain n t1 ws1 fs1 ps1 row1 ds1 past1 ∧
    b32 (kt ws fs row ds (.lst past :: r)) [x0, some (.sh (.int (n : Int))), some (.sh (.hdl 0)), some (.sh (.hdl 3)), some (.sh (.int c)), a5, a6, a7, a8, a9, a10, a11, a12, a13] = (.nx [x0, some (.sh (.int (n : Int))), some (.sh (.hdl 0)), some (.sh (.hdl 3)), some (.sh (.int c)), b5, b6, b7, b8, b9, b10, b11, b12, a13], kt ws1 fs1 row1 ds1 (.lst past1 :: r)) := by
  obtain ⟨w, w0, w1, ew⟩ := v_draw c (k := 30) (b := 5) (by decide) (by decide) (by decide) (by decide)
  obtain ⟨t1, ws1, fs1, ps1, row1, ds1, past1, b7, b8, ht1, C1, eA⟩ := turnA (r := r) (x0 := x0) (c := c) (w := w) (a7 := a7) (a8 := a8) (a9 := a9) (a10 := a10) (a11 := a11) (a12 := a12) (a13 := a13) C (by omega) h1 h2
  have k1 := C1.ok
  obtain ⟨co, e6, e8⟩ := turnB6 (r := r) (x0 := x0) (c := c) (a5 := some (.sh (.int w))) (a6 := some (.sh (seenK ws fs row))) (a7 := b7) (a8 := b8) (a12 := a12) (a13 := a13) (b12 := some (.sh (.lst (bigL n)))) C1 (by omega)
  have e3 := turnB3 (ws := ws1) (row := row1) (fs := fs1) (ds := ds1) (past := past1) (r := r) (x0 := x0) (c := c) (a5 := some (.sh (.int w))) (a6 := some (.sh (seenK ws fs row))) (a7 := b7) (a8 := b8) (a9 := a9) (a10 := a10) (a11 := a11) (a12 := a12) (a13 := a13) h1 h2
  have e7 := turnB7 (r := r) (x0 := x0) (c := c) (a5 := some (.sh (.int w))) (a6 := some (.sh (seenK ws fs row))) (a7 := b7) (a8 := b8) (a12 := a12) (a13 := a13) C1 h1 h2 co
  have n1 := ne_self (dk_seen (ws := ws1) (row := row1) (dks_frs k1.fr)) (by omega)
  refine ⟨t1, ws1, fs1, ps1, row1, ds1, past1, some (.sh (.int w)), some (.sh (seenK ws fs row)), b7, b8, some (.sh (.lst (oddL n))), some (.sh (seenK ws1 fs1 row1)), some (.sh co), some (.sh (.lst (bigL n))), ht1, C1, ?_⟩
  show sSeqT b32_0 (sSeqT b32_1 (sSeqT b32_2 (sSeqT b32_3 (sSeqT b32_4 (sSeqT b32_5 (sSeqT b32_6 (sSeqT b32_7 (sSeqT b32_8 b32_9)))))))) _ _ = _
  rw [t_seq, show b32_0 (kt ws fs row ds (.lst past :: r)) [x0, some (.sh (.int (n : Int))), some (.sh (.hdl 0)), some (.sh (.hdl 3)), some (.sh (.int c)), a5, a6, a7, a8, a9, a10, a11, a12, a13] = (.nx [x0, some (.sh (.int (n : Int))), some (.sh (.hdl 0)), some (.sh (.hdl 3)), some (.sh (.int c)), some (.sh (.int w)), a6, a7, a8, a9, a10, a11, a12, a13], kt ws fs row ds (.lst past :: r)) by simp only [b32_0, ew, List.map_cons, List.map_nil, List.length_cons, List.length_nil, List.set, Nat.reduceAdd, Nat.reduceSub, Nat.reduceLT, if_true, if_false, List.getElem?_cons_zero, List.getElem?_cons_succ, bind_ok, opt_some, asB_bl, Bool.not_true, Bool.not_false, Bool.false_eq_true, a_var, a_rd, a_c, a_cons, a_nil, a_bin, a_fn, a_set, a_ret, a_snil, a_sIf, a_bV, t_P, t_eP, t_bP, t_nil, t_if, t_set, t_expr, t_seq, t_bV, t_bin, t_mt, t_fn, t_or, t_and, t_not]]
  dsimp only
  rw [t_seq, show b32_1 (kt ws fs row ds (.lst past :: r)) [x0, some (.sh (.int (n : Int))), some (.sh (.hdl 0)), some (.sh (.hdl 3)), some (.sh (.int c)), some (.sh (.int w)), a6, a7, a8, a9, a10, a11, a12, a13] = (.nx [x0, some (.sh (.int (n : Int))), some (.sh (.hdl 0)), some (.sh (.hdl 3)), some (.sh (.int c)), some (.sh (.int w)), some (.sh (seenK ws fs row)), a7, a8, a9, a10, a11, a12, a13], kt ws fs row ds (.lst past :: r)) by simp only [b32_1, v_seen, List.map_cons, List.map_nil, List.length_cons, List.length_nil, List.set, Nat.reduceAdd, Nat.reduceSub, Nat.reduceLT, if_true, if_false, List.getElem?_cons_zero, List.getElem?_cons_succ, bind_ok, opt_some, asB_bl, Bool.not_true, Bool.not_false, Bool.false_eq_true, a_var, a_rd, a_c, a_cons, a_nil, a_bin, a_fn, a_set, a_ret, a_snil, a_sIf, a_bV, t_P, t_eP, t_bP, t_nil, t_if, t_set, t_expr, t_seq, t_bV, t_bin, t_mt, t_fn, t_or, t_and, t_not]]
  dsimp only
  rw [t_seq, eA]
  dsimp only
  rw [t_seq, e3]
  dsimp only
  rw [t_seq, turnB4]
  dsimp only
  rw [t_seq, turnB5]
  dsimp only
  rw [t_seq, e6]
  dsimp only
  rw [t_seq, e7]
  dsimp only
  rw [t_seq, e8]
  dsimp only
  simp only [b32_9, v_seen, n1, List.map_cons, List.map_nil, List.length_cons, List.length_nil, List.set, Nat.reduceAdd, Nat.reduceSub, Nat.reduceLT, if_true, if_false, List.getElem?_cons_zero, List.getElem?_cons_succ, bind_ok, opt_some, asB_bl, Bool.not_true, Bool.not_false, Bool.false_eq_true, a_var, a_rd, a_c, a_cons, a_nil, a_bin, a_fn, a_set, a_ret, a_snil, a_sIf, a_bV, t_P, t_eP, t_bP, t_nil, t_if, t_set, t_expr, t_seq, t_bV, t_bin, t_mt, t_fn, t_or, t_and, t_not]
end
end DL

namespace DL
open PySem PySem.Spec PyProof.Rows L2
open Fr

theorem turns {n : Nat} (h1 : 1 ≤ n) (h2 : n ≤ 5) {x0 a13 : Option Sl} {r : Tbl} : ∀ (cs : List Int) (t : Nat) (ws row : List Int) (fs ds past : List D) (ps : List P) (a4 a5 a6 a7 a8 a9 a10 a11 a12 : Option Sl), Chain n t ws fs ps row ds past → t + cs.length ≤ 36 →
    ∃ t1 ws1 fs1 ps1 row1 ds1 past1 b4 b5 b6 b7 b8 b9 b10 b11 b12, t1 ≤ t + cs.length ∧ Chain n t1 ws1 fs1 ps1 row1 ds1 past1 ∧
      flT (gNm 4) b32 (cs.map D.int) (kt ws fs row ds (.lst past :: r)) [x0, some (.sh (.int (n : Int))), some (.sh (.hdl 0)), some (.sh (.hdl 3)), a4, a5, a6, a7, a8, a9, a10, a11, a12, a13]
        = (.nx [x0, some (.sh (.int (n : Int))), some (.sh (.hdl 0)), some (.sh (.hdl 3)), b4, b5, b6, b7, b8, b9, b10, b11, b12, a13], kt ws1 fs1 row1 ds1 (.lst past1 :: r))
  | [], t, ws, row, fs, ds, past, ps, a4, a5, a6, a7, a8, a9, a10, a11, a12, C, h => ⟨t, ws, fs, ps, row, ds, past, a4, a5, a6, a7, a8, a9, a10, a11, a12, Nat.le_refl _, C, rfl⟩
  | c :: cs, t, ws, row, fs, ds, past, ps, a4, a5, a6, a7, a8, a9, a10, a11, a12, C, h => by
    rw [List.length_cons] at h
    obtain ⟨t1, ws1, fs1, ps1, row1, ds1, past1, b5, b6, b7, b8, b9, b10, b11, b12, l1, C1, e⟩ := turn (r := r) (x0 := x0) (c := c) (a5 := a5) (a6 := a6) (a7 := a7) (a8 := a8) (a9 := a9) (a10 := a10) (a11 := a11) (a12 := a12) (a13 := a13) C (by omega) h1 h2
    obtain ⟨t2, ws2, fs2, ps2, row2, ds2, past2, d4, d5, d6, d7, d8, d9, d10, d11, d12, l2, C2, e2⟩ := turns h1 h2 (x0 := x0) (a13 := a13) (r := r) cs t1 ws1 row1 fs1 ds1 past1 ps1 (some (.sh (.int c))) b5 b6 b7 b8 b9 b10 b11 b12 C1 (by omega)
    refine ⟨t2, ws2, fs2, ps2, row2, ds2, past2, d4, d5, d6, d7, d8, d9, d10, d11, d12, by rw [List.length_cons]; omega, C2, ?_⟩
    rw [List.map_cons, flT]
    simp only [a_nm, List.set]
    rw [e]
    exact e2
theorem backs {n : Nat} {r : Tbl} {a0 a1 a4 a5 a6 a7 a8 a9 a10 a11 a12 : Option Sl} : ∀ (xs : List D) (t : Nat) (ws row : List Int) (fs ds past : List D) (ps : List P) (a13 : Option Sl), Chain n t ws fs ps row ds past →
    ∃ ws1 fs1 ps1 row1 ds1 past1 b13, Chain n (t - xs.length) ws1 fs1 ps1 row1 ds1 past1 ∧
      flT (gNm 13) c32 xs (kt ws fs row ds (.lst past :: r)) [a0, a1, some (.sh (.hdl 0)), some (.sh (.hdl 3)), a4, a5, a6, a7, a8, a9, a10, a11, a12, a13]
        = (.nx [a0, a1, some (.sh (.hdl 0)), some (.sh (.hdl 3)), a4, a5, a6, a7, a8, a9, a10, a11, a12, b13], kt ws1 fs1 row1 ds1 (.lst past1 :: r))
  | [], t, ws, row, fs, ds, past, ps, a13, C => ⟨ws, fs, ps, row, ds, past, a13, C, rfl⟩
  | x :: xs, t, ws, row, fs, ds, past, ps, a13, C => by
    obtain ⟨ws1, fs1, ps1, row1, ds1, past1, C1, e⟩ := v_Lback (r := r) C
    obtain ⟨ws2, fs2, ps2, row2, ds2, past2, b13, C2, e2⟩ := backs (r := r) (a0 := a0) (a1 := a1) (a4 := a4) (a5 := a5) (a6 := a6) (a7 := a7) (a8 := a8) (a9 := a9) (a10 := a10) (a11 := a11) (a12 := a12) xs (t - 1) ws1 row1 fs1 ds1 past1 ps1 (some (.sh x)) C1
    refine ⟨ws2, fs2, ps2, row2, ds2, past2, b13, ?_, ?_⟩
    · rw [List.length_cons, show t - (xs.length + 1) = t - 1 - xs.length by omega]
      exact C2
    · have ec : c32 (kt ws fs row ds (.lst past :: r)) [a0, a1, some (.sh (.hdl 0)), some (.sh (.hdl 3)), a4, a5, a6, a7, a8, a9, a10, a11, a12, some (.sh x)] = (.nx [a0, a1, some (.sh (.hdl 0)), some (.sh (.hdl 3)), a4, a5, a6, a7, a8, a9, a10, a11, a12, some (.sh x)], kt ws1 fs1 row1 ds1 (.lst past1 :: r)) := by
        simp only [c32, t_if, t_not, t_bV, t_fn, a_cons, a_nil, a_var, List.getElem?_cons_zero, List.getElem?_cons_succ, bind_ok, e, Bool.not_true, t_nil]
      rw [flT]
      simp only [a_nm, List.set]
      rw [ec]
      exact e2
theorem cut_len {α : Type} (xs : List α) : (cut xs (some 1) (some 31)).length ≤ 30 := by
  unfold cut HT.sIx
  simp only []
  rw [if_neg (by omega), if_neg (by omega), List.length_take, List.length_drop]
  omega
abbrev l32_0 : TS1 := (sP (fun mu => (sSet 1 (eBin D.add (eC (.int 1)) (eFn m_L_draw (aCons (eFn m_L_cell_at (aCons (eVar 0) (aCons (eC (.int 0)) aNil))) (aCons (eC (.int 20)) (aCons (eC (.int 5)) aNil))))))))
abbrev l32_1 : TS1 := (sSetT 2 (eNewT "Credits" m_Credits_init (fun mu => (aCons (eFn m_L_weights (aCons (eFn m_L_cell_at (aCons (eVar 0) (aCons (eC (.int 0)) aNil))) (aCons (eVar 1) aNil))) aNil))))
abbrev l32_2 : TS1 := (sSetT 3 (eNewL (fun mu => (eLst aNil))))
abbrev l32_3 : TS1 := (sForT (fun mu => (iL (eBin D.add (eSl (eRd 0) (oI (eC (.int 1))) (oI (eC (.int 31)))) (eLst (aCons (eC (.int 4)) aNil))))) (gNm 4) (sSeqT (sP (fun mu => (sSet 5 (eFn m_L_draw (aCons (eVar 4) (aCons (eC (.int 30)) (aCons (eC (.int 5)) aNil))))))) (sSeqT (sP (fun mu => (sSet 6 (eFn (m_L_seen mu) (aCons (eVar 2) aNil))))) (sSeqT (sIfT (bP (fun mu => (bV (eBin D.lt (eRd 5) (eC (.int 2)))))) (sSeqT (sSetT 7 (eMtT "Credits" "step" m_Credits_step (fun mu => (eVar 2)) fun _ => aNil)) (sSeqT (sP (fun mu => (sSet 8 (eFn (m_L_seen mu) (aCons (eVar 2) aNil))))) (sSeqT (sIfT (bOrT (bVT (eBinT D.ne (eMtT "Credits" "back" m_Credits_back (fun mu => (eVar 2)) fun _ => aNil) (fun mu => (eC (.str "step"))))) (bOrT (bP (fun mu => (bV (eBin D.ne (eFn (m_L_seen mu) (aCons (eVar 2) aNil)) (eRd 6))))) (bVT (eBinT D.ne (eMtT "Credits" "step" m_Credits_step (fun mu => (eVar 2)) fun _ => aNil) (fun mu => (eRd 7)))))) (sP (fun mu => (sRet (eC (.bl false))))) sNilT) (sSeqT (sP (fun mu => (sIf (bV (eBin D.ne (eFn (m_L_seen mu) (aCons (eVar 2) aNil)) (eRd 8))) (sRet (eC (.bl false))) sNil))) (sAppC (fun mu => (eVar 3)) (fun mu => (eTup (aCons (eC (.str "step")) (aCons (eVar 6) aNil))))))))) (sIfT (bP (fun mu => (bV (eBin D.eq (eRd 5) (eC (.int 2)))))) (sSeqT (sExprT (eMtT "Credits" "change" m_Credits_change (fun mu => (eVar 2)) (fun mu => (aCons (eFn m_L_weights (aCons (eVar 4) (aCons (eVar 1) aNil))) aNil)))) (sAppC (fun mu => (eVar 3)) (fun mu => (eTup (aCons (eC (.str "change")) (aCons (eVar 6) aNil)))))) (sIfT (bNotT (bVT (eFnT m_L_back (fun mu => (aCons (eVar 2) (aCons (eVar 3) aNil)))))) (sP (fun mu => (sRet (eC (.bl false))))) sNilT))) (sSeqT (sP (fun mu => (sSet 9 (eLst (aCons (eC .non) (aCons (eLst aNil) (aCons (eBin D.mul (eLst (aCons (eC (.int 0)) aNil)) (eRd 1)) (aCons (eBin D.mul (eLst (aCons (eC (.int 1)) aNil)) (eBin D.add (eRd 1) (eC (.int 1)))) (aCons (eBin D.mul (eTup (aCons (eC (.int 1)) aNil)) (eRd 1)) (aCons (eBin D.mul (eLst (aCons (eC (.int 1001)) aNil)) (eRd 1)) (aCons (eBin D.mul (eLst (aCons (eC (.bl true)) aNil)) (eRd 1)) (aCons (eBin D.mul (eLst (aCons (eC (.str "1")) aNil)) (eRd 1)) aNil)))))))))))) (sSeqT (sP (fun mu => (sSet 10 (eFn (m_L_seen mu) (aCons (eVar 2) aNil))))) (sSeqT (sP (fun mu => (sSet 11 (eC .non)))) (sSeqT (sIfT (bP (fun mu => (bV (eBin D.eq (eFn m_L_draw (aCons (eVar 4) (aCons (eC (.int 33)) (aCons (eC (.int 2)) aNil)))) (eC (.int 0)))))) (sSetT 11 (eTupT (aConsT (eMtT "Credits" "step" m_Credits_step (fun mu => (eVar 2)) fun _ => aNil) (aConsT (eP (fun mu => (eFn (m_L_seen mu) (aCons (eVar 2) aNil)))) (aConsT (eMtT "Credits" "back" m_Credits_back (fun mu => (eVar 2)) fun _ => aNil) aNilT))))) sNilT) (sSeqT (sForT (fun mu => (iL (eLst (aCons (eBin D.item (eRd 9) (eFn m_L_draw (aCons (eVar 4) (aCons (eC (.int 32)) (aCons (eC (.int 8)) aNil))))) (aCons (eBin D.add (eBin D.mul (eLst (aCons (eC (.int 1000)) aNil)) (eBin D.sub (eRd 1) (eC (.int 1)))) (eLst (aCons (eC (.int 1001)) aNil))) aNil))))) (gNm 12) (sIfT (bOrT (bVT (eBinT D.ne (eFnT m_L_said (fun mu => (aCons (eVar 2) (aCons (eC (.int 1)) (aCons (eVar 12) aNil))))) (fun mu => (eC (.int 0))))) (bP (fun mu => (bV (eBin D.ne (eFn (m_L_seen mu) (aCons (eVar 2) aNil)) (eRd 10)))))) (sP (fun mu => (sRet (eC (.bl false))))) sNilT)) (sSeqT (sIfT (bAndT (bP (fun mu => (bV (eBin D.notN (eRd 11) (eC .non))))) (bVT (eBinT D.ne (eTupT (aConsT (eMtT "Credits" "step" m_Credits_step (fun mu => (eVar 2)) fun _ => aNil) (aConsT (eP (fun mu => (eFn (m_L_seen mu) (aCons (eVar 2) aNil)))) (aConsT (eMtT "Credits" "back" m_Credits_back (fun mu => (eVar 2)) fun _ => aNil) aNilT)))) (fun mu => (eRd 11))))) (sP (fun mu => (sRet (eC (.bl false))))) sNilT) (sP (fun mu => (sIf (bV (eBin D.ne (eFn (m_L_seen mu) (aCons (eVar 2) aNil)) (eRd 10))) (sRet (eC (.bl false))) sNil)))))))))))))
abbrev l32_4 : TS1 := (sForT (fun mu => (iR (aCons (eBin D.add (eCall gLen (aCons (eCv mu 3) aNil)) (eC (.int 1))) aNil))) (gNm 13) (sIfT (bNotT (bVT (eFnT m_L_back (fun mu => (aCons (eVar 2) (aCons (eVar 3) aNil)))))) (sP (fun mu => (sRet (eC (.bl false))))) sNilT))
abbrev l32_5 : TS1 := (sRetT (eAndT (eFnT m_L_none_made (fun mu => (aCons (eVar 2) (aCons (eVar 1) aNil)))) (eAndT (eP (fun mu => (eBin D.eq (eMt mu "Credits" "told" (m_Credits_told mu) (eVar 2) aNil) (eLst aNil)))) (eP (fun mu => (eBin D.eq (eMt mu "Credits" "owing" (m_Credits_owing mu) (eVar 2) aNil) (eBin D.mul (eLst (aCons (eTup (aCons (eC (.int 0)) (aCons (eC (.int 1)) aNil))) aNil)) (eRd 1))))))))
theorem for_ok {f : Tbl → Sto → M (List D)} {b : D → Sto → Option Sto} {g : TS1} {T : Tbl} {S : Sto} {xs : List D} {y : Res × Tbl} (hi : f T S = .ok xs) (e2 : flT b g xs T S = y) : sForT f b g T S = y := by
  rw [t_for, hi]
  exact e2
theorem iR_ok {f : Sto → M (List D)} {ρ : Sto} {k : Int} (h : f ρ = .ok [.int k]) (hr : rngOk k = true) : iR f ρ = .ok (rngD 0 k.toNat) := by
  unfold iR
  rw [h]
  simp [hr]
theorem law_true (ns : List Int) (hn : ns.length ≤ 63) : ∃ mu, m_law [scr ns] [] = (.ok (.bl true), mu) := by
  obtain ⟨c, ec⟩ := v_cell ns (k := 0) (by decide)
  obtain ⟨d, d0, d1, ed⟩ := v_draw c (k := 20) (b := 5) (by decide) (by decide) (by decide) (by decide)
  obtain ⟨n, hn⟩ : ∃ n : Nat, 1 + d = (n : Int) := ⟨(1 + d).toNat, by omega⟩
  have h1 : 1 ≤ n := by omega
  have h2 : n ≤ 5 := by omega
  obtain ⟨ws, lw, wt, ew⟩ := v_weights c (n := (n : Int)) (by omega) (by omega)
  have cl := cut_len ns
  obtain ⟨t1, ws1, fs1, ps1, row1, ds1, past1, b4, b5, b6, b7, b8, b9, b10, b11, b12, l1, C1, e1⟩ := turns h1 h2 (x0 := some (.sh (scr ns))) (a13 := none) (r := []) (cut ns (some 1) (some 31) ++ [4]) 0 ws [] (nought ws.length) [] [] _ none none none none none none none none none (Chain.nil wt (by omega)) (by simp; omega)
  have k1 := C1.ok
  have l1' : t1 ≤ 31 := by rw [List.length_append] at l1; simp at l1; omega
  obtain ⟨xs, hx, lx⟩ : ∃ xs, rngD 0 (t1 + 1) = xs ∧ xs.length = t1 + 1 := ⟨_, rfl, by unfold rngD; simp⟩
  obtain ⟨ws2, fs2, ps2, row2, ds2, past2, b13, C2, e2⟩ := backs (r := []) (a0 := some (.sh (scr ns))) (a1 := some (.sh (.int (n : Int)))) (a4 := b4) (a5 := b5) (a6 := b6) (a7 := b7) (a8 := b8) (a9 := b9) (a10 := b10) (a11 := b11) (a12 := b12) xs t1 ws1 row1 fs1 ds1 past1 ps1 none C1
  rw [show t1 - xs.length = 0 by rw [lx]; omega] at C2
  have fin : ∃ ws3 : List Int, ws3.length = n ∧ kt ws2 fs2 row2 ds2 (.lst past2 :: []) = kt ws3 (nought n) [] [] [.lst []] := by
    cases C2 with
    | nil wt hn => exact ⟨ws2, hn, by rw [hn]⟩
  obtain ⟨ws3, l3, e3⟩ := fin
  rw [e3] at e2
  obtain ⟨r, e4⟩ := v_none_made (x := .hdl 0) (mu := kt ws3 (nought n) [] [] [.lst []]) h1 h2
  have app : kt ws3 (nought n) [] [] [.lst []] ++ r = kt ws3 (nought n) [] [] (.lst [] :: r) := rfl
  rw [app] at e4
  have es : D.slice (scr ns) (some 1) (some 31) = some (intL (cut ns (some 1) (some 31))) := by
    show some (D.lst (cut (ns.map D.int) _ _)) = _
    rw [cut_map]
  have ea : D.add (intL (cut ns (some 1) (some 31))) (.lst [.int 4]) = some (.lst ((cut ns (some 1) (some 31) ++ [4]).map D.int)) := by
    have la : lim (((cut ns (some 1) (some 31)).map D.int).length + 1) = true := decide_eq_true (by simp; omega)
    show (if lim (((cut ns (some 1) (some 31)).map D.int).length + 1) then some (D.lst (((cut ns (some 1) (some 31)).map D.int) ++ [.int 4])) else none) = _
    rw [if_pos la]
    simp
  have gl : gLen [.lst past1] = some (.int (t1 : Int)) := by rw [gLen_lst, k1.pl]
  obtain ⟨m, hm⟩ : ∃ m : Int, (t1 : Int) + 1 = m := ⟨_, rfl⟩
  have r0 : rngOk m = true := by unfold rngOk; simp; omega
  have rt : m.toNat = t1 + 1 := by omega
  have hi : ∀ ρ : Sto, ρ[3]? = some (some (.sh (.hdl 3))) → iR (aCons (eBin D.add (eCall gLen (aCons (eCv (kt ws1 fs1 row1 ds1 [.lst past1]) 3) aNil)) (eC (.int 1))) aNil) ρ = .ok xs := fun ρ h3 => by
    have e1 : (eCall gLen (aCons (eCv (kt ws1 fs1 row1 ds1 [.lst past1]) 3) aNil)) ρ = .ok (.int (t1 : Int)) := by
      simp only [a_call, a_cons, a_nil, a_cv, a_rd, h3, map_ok, kt_rpast, bind_ok, gl, opt_some]
    have e2 : D.add (.int (t1 : Int)) (.int 1) = some (.int m) := by rw [p_add, hm]
    rw [← hx, ← rt]
    refine iR_ok ?_ r0
    rw [a_cons, a_bin, e1, bind_ok, a_c, bind_ok, e2, opt_some, bind_ok, a_nil, bind_ok]
  have hi' := hi _ (show ([some (Sl.sh (scr ns)), some (.sh (.int (n : Int))), some (.sh (.hdl 0)), some (.sh (.hdl 3)), b4, b5, b6, b7, b8, b9, b10, b11, b12, none] : Sto)[3]? = some (some (.sh (.hdl 3))) from rfl)
  have l0 : lim 0 = true := rfl
  have l1 : lim 1 = true := rfl
  have l2 : lim 2 = true := rfl
  have q1 : D.eq (intL []) (.lst []) = some (.bl true) := eq_nil0 (ds := []) (n := 1) (by simp [dk, dks]) (by omega)
  have m0 : D.mul (.lst [.tup [.int 0, .int 1]]) (.int n) = some (.lst ((List.replicate n ((0, 1) : P)).map fr)) := by
    rw [mul_lst _ (by omega), List.map_replicate]
  have q2 : D.eq (.lst (nought n)) (.lst ((List.replicate n ((0, 1) : P)).map fr)) = some (.bl true) := by
    refine eq_of (n := 2) (m := 2) ?_ ?_ (by omega) (by omega) ?_
    · simp only [dk]; exact dks_frs (frs_nought n)
    · simp only [dk]; exact dks_frs (frs_fr _)
    · rw [D.toP, D.toP]
      have a : toPs (nought n) = toPs ((List.replicate n ((0, 1) : P)).map fr) := by
        unfold nought
        generalize n = m
        induction m with
        | zero => rfl
        | succ m ih =>
          rw [List.replicate_succ, List.replicate_succ, List.map_cons, toPs, toPs, ih]
          congr 1
      rw [a]
      simp only [PyData.eqv]
      refine eqvs_refl _ (dks_lay _ 1 (dks_frs (frs_fr _))).1
  have vi := v_init wt
  refine ⟨kt ws3 (nought n) [] [] (.lst [] :: r), ?_⟩
  have mk : ∀ ws fs, kt ws fs [] [] [] ++ [Cl.lst []] = kt ws fs [] [] [.lst []] := fun _ _ => rfl
  have ln : ∀ ws fs, (kt ws fs [] [] []).length = 3 := fun _ _ => rfl
  have s0 : l32_0 [] [some (.sh (scr ns)), none, none, none, none, none, none, none, none, none, none, none, none, none] = (.nx [some (.sh (scr ns)), some (.sh (.int (n : Int))), none, none, none, none, none, none, none, none, none, none, none, none], []) := by
    have e : D.add (.int 1) (.int d) = some (.int (n : Int)) := by rw [p_add, hn]
    simp only [l32_0, t_P, a_set, a_bin, a_fn, a_c, a_cons, a_nil, a_var, List.getElem?_cons_zero, List.getElem?_cons_succ, bind_ok, ec, ed, e, opt_some, List.set]
  have s1 : l32_1 [] [some (.sh (scr ns)), some (.sh (.int (n : Int))), none, none, none, none, none, none, none, none, none, none, none, none] = (.nx [some (.sh (scr ns)), some (.sh (.int (n : Int))), some (.sh (.hdl 0)), none, none, none, none, none, none, none, none, none, none, none], kt ws (nought ws.length) [] [] []) := by
    simp only [l32_1, t_set, t_new, a_fn, a_c, a_cons, a_nil, a_var, List.getElem?_cons_zero, List.getElem?_cons_succ, bind_ok, ec, ew, List.length_nil, List.nil_append, vi, List.set]
  have s2 : l32_2 (kt ws (nought ws.length) [] [] []) [some (.sh (scr ns)), some (.sh (.int (n : Int))), some (.sh (.hdl 0)), none, none, none, none, none, none, none, none, none, none, none] = (.nx [some (.sh (scr ns)), some (.sh (.int (n : Int))), some (.sh (.hdl 0)), some (.sh (.hdl 3)), none, none, none, none, none, none, none, none, none, none], kt ws (nought ws.length) [] [] [.lst []]) := by
    simp only [l32_2, t_set, t_newL, a_lst, a_nil, bind_ok, List.length_nil, l0, if_true, ln, mk, List.set]
  have s3 : l32_3 (kt ws (nought ws.length) [] [] [.lst []]) [some (.sh (scr ns)), some (.sh (.int (n : Int))), some (.sh (.hdl 0)), some (.sh (.hdl 3)), none, none, none, none, none, none, none, none, none, none] = (.nx [some (.sh (scr ns)), some (.sh (.int (n : Int))), some (.sh (.hdl 0)), some (.sh (.hdl 3)), b4, b5, b6, b7, b8, b9, b10, b11, b12, none], kt ws1 fs1 row1 ds1 [.lst past1]) := by
    have ei : (iL (eBin D.add (eSl (eRd 0) (oI (eC (.int 1))) (oI (eC (.int 31)))) (eLst (aCons (eC (.int 4)) aNil)))) [some (.sh (scr ns)), some (.sh (.int (n : Int))), some (.sh (.hdl 0)), some (.sh (.hdl 3)), none, none, none, none, none, none, none, none, none, none] = .ok ((cut ns (some 1) (some 31) ++ [4]).map D.int) := by
      simp only [a_iL, a_bin, a_sl, a_oI, a_rd, a_c, a_lst, a_cons, a_nil, List.getElem?_cons_zero, bind_ok, es, opt_some, List.length_cons, List.length_nil, Nat.reduceAdd, l1, if_true, ea]
    rw [show l32_3 = sForT (fun mu => (iL (eBin D.add (eSl (eRd 0) (oI (eC (.int 1))) (oI (eC (.int 31)))) (eLst (aCons (eC (.int 4)) aNil))))) (gNm 4) b32 from rfl, t_for]
    rw [ei]
    exact e1
  have s4 : l32_4 (kt ws1 fs1 row1 ds1 [.lst past1]) [some (.sh (scr ns)), some (.sh (.int (n : Int))), some (.sh (.hdl 0)), some (.sh (.hdl 3)), b4, b5, b6, b7, b8, b9, b10, b11, b12, none] = (.nx [some (.sh (scr ns)), some (.sh (.int (n : Int))), some (.sh (.hdl 0)), some (.sh (.hdl 3)), b4, b5, b6, b7, b8, b9, b10, b11, b12, b13], kt ws3 (nought n) [] [] [.lst []]) :=
    for_ok (f := fun mu => (iR (aCons (eBin D.add (eCall gLen (aCons (eCv mu 3) aNil)) (eC (.int 1))) aNil))) hi' e2
  have s5 : l32_5 (kt ws3 (nought n) [] [] [.lst []]) [some (.sh (scr ns)), some (.sh (.int (n : Int))), some (.sh (.hdl 0)), some (.sh (.hdl 3)), b4, b5, b6, b7, b8, b9, b10, b11, b12, b13] = (.rt (.sh (.bl true)), kt ws3 (nought n) [] [] (.lst [] :: r)) := by
    simp only [l32_5, t_ret, t_andV, t_fn, a_cons, a_nil, a_var, a_rd, a_c, a_lst, a_tup, a_bin, List.length_cons, List.length_nil, Nat.reduceAdd, if_true, List.getElem?_cons_zero, List.getElem?_cons_succ, bind_ok, opt_some, l0, l1, l2, e4, t_eP, a_mt, canM_kt noM_told, canM_kt noM_owing, v_told, v_owing, q1, m0, q2]
  have run : g_law [] [some (.sh (scr ns)), none, none, none, none, none, none, none, none, none, none, none, none, none] = (.rt (.sh (.bl true)), kt ws3 (nought n) [] [] (.lst [] :: r)) := by
    show sSeqT l32_0 (sSeqT l32_1 (sSeqT l32_2 (sSeqT l32_3 (sSeqT l32_4 l32_5)))) _ _ = _
    rw [t_seq, s0]
    dsimp only
    rw [t_seq, s1]
    dsimp only
    rw [t_seq, s2]
    dsimp only
    rw [t_seq, s3]
    dsimp only
    rw [t_seq, s4]
    dsimp only
    rw [s5]
  have fin : m_law [scr ns] [] = outT (g_law [] (startS 14 [scr ns])) := by simp only [m_law, t_runT, List.length_cons, List.length_nil, Nat.reduceAdd, if_true]
  rw [fin, show startS 14 [scr ns] = [some (.sh (scr ns)), none, none, none, none, none, none, none, none, none, none, none, none, none] from rfl, run, outT_rt]
end DL

namespace DL
open PySem PySem.Spec PyProof.Rows L2
theorem all_mk {P : Program} {w : World} {K : PySem.W.Frag} {h : Heap} {mg : Str → Option Value} {fa : Addr} {C_Credits : Addr} {C_DueError : Addr} {C_NoPlan : Addr} {C_NoRow : Addr} {C_NoStep : Addr} {C_NoTurns : Addr} {t_MOST_CLAIMANTS : Tok} {t_MOST_WEIGHT : Tok} {a_c_NOUGHT : Addr} {od_c_NOUGHT : Option Addr} {n_c_NOUGHT : Nat} {sl_c_NOUGHT : Array (Option Value)} {t_NOUGHT_0 : Tok} {t_NOUGHT_1 : Tok} {f_NoPlan_init : Addr} {od_NoPlan_init an_NoPlan_init : Option Addr} {sl_NoPlan_init : Array (Option Value)} {oc_NoPlan_init kV_NoPlan_init dc_NoPlan_init pm_NoPlan_init cd_NoPlan_init ct_NoPlan_init : Value} {nm_NoPlan q_NoPlan N_NoPlan bs_NoPlan bm_NoPlan sn_NoPlan sub_NoPlan ab_NoPlan col_NoPlan dd_NoPlan k0_NoPlan k1_NoPlan k2_NoPlan k3_NoPlan k5_NoPlan} {f_is_whole : Addr} {od_is_whole an_is_whole : Option Addr} {sl_is_whole : Array (Option Value)} {oc_is_whole kV_is_whole dc_is_whole pm_is_whole cd_is_whole ct_is_whole : Value} {f_common : Addr} {od_common an_common : Option Addr} {sl_common : Array (Option Value)} {oc_common kV_common dc_common pm_common cd_common ct_common : Value} {f_made : Addr} {od_made an_made : Option Addr} {sl_made : Array (Option Value)} {oc_made kV_made dc_made pm_made cd_made ct_made : Value} {f_plus : Addr} {od_plus an_plus : Option Addr} {sl_plus : Array (Option Value)} {oc_plus kV_plus dc_plus pm_plus cd_plus ct_plus : Value} {f_minus : Addr} {od_minus an_minus : Option Addr} {sl_minus : Array (Option Value)} {oc_minus kV_minus dc_minus pm_minus cd_minus ct_minus : Value} {f_less : Addr} {od_less an_less : Option Addr} {sl_less : Array (Option Value)} {oc_less kV_less dc_less pm_less cd_less ct_less : Value} {f_are_weights : Addr} {od_are_weights an_are_weights : Option Addr} {sl_are_weights : Array (Option Value)} {oc_are_weights kV_are_weights dc_are_weights pm_are_weights cd_are_weights ct_are_weights : Value} {f_Credits_init : Addr} {od_Credits_init an_Credits_init : Option Addr} {sl_Credits_init : Array (Option Value)} {oc_Credits_init kV_Credits_init dc_Credits_init pm_Credits_init cd_Credits_init ct_Credits_init : Value} {f_Credits_weights : Addr} {od_Credits_weights an_Credits_weights : Option Addr} {sl_Credits_weights : Array (Option Value)} {oc_Credits_weights kV_Credits_weights dc_Credits_weights pm_Credits_weights cd_Credits_weights ct_Credits_weights : Value} {f_Credits_owing : Addr} {od_Credits_owing an_Credits_owing : Option Addr} {sl_Credits_owing : Array (Option Value)} {oc_Credits_owing kV_Credits_owing dc_Credits_owing pm_Credits_owing cd_Credits_owing ct_Credits_owing : Value} {f_Credits_told : Addr} {od_Credits_told an_Credits_told : Option Addr} {sl_Credits_told : Array (Option Value)} {oc_Credits_told kV_Credits_told dc_Credits_told pm_Credits_told cd_Credits_told ct_Credits_told : Value} {f_Credits_step : Addr} {od_Credits_step an_Credits_step : Option Addr} {sl_Credits_step : Array (Option Value)} {oc_Credits_step kV_Credits_step dc_Credits_step pm_Credits_step cd_Credits_step ct_Credits_step : Value} {f_Credits_change : Addr} {od_Credits_change an_Credits_change : Option Addr} {sl_Credits_change : Array (Option Value)} {oc_Credits_change kV_Credits_change dc_Credits_change pm_Credits_change cd_Credits_change ct_Credits_change : Value} {f_Credits_back : Addr} {od_Credits_back an_Credits_back : Option Addr} {sl_Credits_back : Array (Option Value)} {oc_Credits_back kV_Credits_back dc_Credits_back pm_Credits_back cd_Credits_back ct_Credits_back : Value} {f_L_cell_at : Addr} {od_L_cell_at an_L_cell_at : Option Addr} {sl_L_cell_at : Array (Option Value)} {oc_L_cell_at kV_L_cell_at dc_L_cell_at pm_L_cell_at cd_L_cell_at ct_L_cell_at : Value} {f_L_draw : Addr} {od_L_draw an_L_draw : Option Addr} {sl_L_draw : Array (Option Value)} {oc_L_draw kV_L_draw dc_L_draw pm_L_draw cd_L_draw ct_L_draw : Value} {f_L_weight : Addr} {od_L_weight an_L_weight : Option Addr} {sl_L_weight : Array (Option Value)} {oc_L_weight kV_L_weight dc_L_weight pm_L_weight cd_L_weight ct_L_weight : Value} {f_L_weights : Addr} {od_L_weights an_L_weights : Option Addr} {sl_L_weights : Array (Option Value)} {oc_L_weights kV_L_weights dc_L_weights pm_L_weights cd_L_weights ct_L_weights : Value} {f_L_seen : Addr} {od_L_seen an_L_seen : Option Addr} {sl_L_seen : Array (Option Value)} {oc_L_seen kV_L_seen dc_L_seen pm_L_seen cd_L_seen ct_L_seen : Value} {f_L_said : Addr} {od_L_said an_L_said : Option Addr} {sl_L_said : Array (Option Value)} {oc_L_said kV_L_said dc_L_said pm_L_said cd_L_said ct_L_said : Value} {f_L_back : Addr} {od_L_back an_L_back : Option Addr} {sl_L_back : Array (Option Value)} {oc_L_back kV_L_back dc_L_back pm_L_back cd_L_back ct_L_back : Value} {f_L_none_made : Addr} {od_L_none_made an_L_none_made : Option Addr} {sl_L_none_made : Array (Option Value)} {oc_L_none_made kV_L_none_made dc_L_none_made pm_L_none_made cd_L_none_made ct_L_none_made : Value} {f_law : Addr} {od_law an_law : Option Addr} {sl_law : Array (Option Value)} {oc_law kV_law dc_law pm_law cd_law ct_law : Value} (X : K.In h) (G : h.Ns mainGlobals mg) (hfa : mg "law" = some (.ref fa))
    (y_Credits_a : PySem.W.nsIn K mainGlobals "Credits" = some (some (.ref C_Credits)))
    (y_Credits_p : PySem.W.plainGet K C_Credits Str.empty = true)
    (y_Credits_h : PySem.W.hasDictIn K C_Credits = true)
    (y_Credits_o : PySem.W.plainOver K C_Credits = true)
    (y_Credits_s : PySem.W.findIn K (.ref C_Credits) "__setattr__" = some (some (.builtin "object.__setattr__")))
    (y_Credits_m : PySem.W.makesIn K C_Credits = true)
    (y_Credits_k : PySem.W.keepIn K (.ref C_Credits) = true)
    (y_Credits_f0 : PySem.W.findIn K (.ref C_Credits) "now" = some none)
    (y_Credits_f1 : PySem.W.findIn K (.ref C_Credits) "owed" = some none)
    (y_Credits_f2 : PySem.W.findIn K (.ref C_Credits) "row" = some none)
    (y_Credits_f3 : PySem.W.findIn K (.ref C_Credits) "deeds" = some none)
    (e_DueError_a : PySem.W.nsIn K mainGlobals "DueError" = some (some (.ref C_DueError)))
    (e_NoPlan_a : PySem.W.nsIn K mainGlobals "NoPlan" = some (some (.ref C_NoPlan)))
    (e_NoRow_a : PySem.W.nsIn K mainGlobals "NoRow" = some (some (.ref C_NoRow)))
    (e_NoStep_a : PySem.W.nsIn K mainGlobals "NoStep" = some (some (.ref C_NoStep)))
    (e_NoTurns_a : PySem.W.nsIn K mainGlobals "NoTurns" = some (some (.ref C_NoTurns)))
    (z_b_ValueError : PySem.W.nsIn K mainGlobals "ValueError" = some none)
    (z_b_abs : PySem.W.nsIn K mainGlobals "abs" = some none)
    (z_b_bool : PySem.W.nsIn K mainGlobals "bool" = some none)
    (z_b_int : PySem.W.nsIn K mainGlobals "int" = some none)
    (z_b_isinstance : PySem.W.nsIn K mainGlobals "isinstance" = some none)
    (z_b_len : PySem.W.nsIn K mainGlobals "len" = some none)
    (z_b_list : PySem.W.nsIn K mainGlobals "list" = some none)
    (z_b_range : PySem.W.nsIn K mainGlobals "range" = some none)
    (z_b_sum : PySem.W.nsIn K mainGlobals "sum" = some none)
    (z_b_tuple : PySem.W.nsIn K mainGlobals "tuple" = some none)
    (z_c_MOST_CLAIMANTS : PySem.W.nsIn K mainGlobals "MOST_CLAIMANTS" = some (some (.int 6 t_MOST_CLAIMANTS)))
    (z_c_MOST_WEIGHT : PySem.W.nsIn K mainGlobals "MOST_WEIGHT" = some (some (.int 1000 t_MOST_WEIGHT)))
    (z_c_NOUGHT_a : PySem.W.nsIn K mainGlobals "NOUGHT" = some (some (.ref a_c_NOUGHT)))
    (z_c_NOUGHT_l : K.lookup a_c_NOUGHT = some ⟨.type "tuple", od_c_NOUGHT, .seq #[.int 0 t_NOUGHT_0, .int 1 t_NOUGHT_1] n_c_NOUGHT, sl_c_NOUGHT⟩)
    (e_DueError_sg : PySem.W.specialIn K (.ref C_DueError) "__getattribute__" = some (some (.builtin "type.__getattribute__")))
    (e_DueError_t : PySem.W.typeIn K (.ref C_DueError) = some (.type "type"))
    (e_DueError_rd : PySem.W.readsIn K C_DueError (.type "type") = true)
    (e_DueError_fc : PySem.W.findCls K (.ref C_DueError) (.type "type") "__init__" = some (.val (.builtin "ValueError.__init__")))
    (e_DueError_s : PySem.W.subIn K (.ref C_DueError) (.type "BaseException") = some true)
    (e_DueError_d : PySem.W.hasDictIn K C_DueError = true)
    (e_NoStep_uDueError : PySem.W.subIn K (.ref C_NoStep) (.ref C_DueError) = some true)
    (e_NoPlan_uDueError : PySem.W.subIn K (.ref C_NoPlan) (.ref C_DueError) = some true)
    (z_x_NoStep_k : PySem.W.keepIn K (.ref C_NoStep) = true)
    (z_x_NoStep_q : PySem.W.excIn K C_NoStep [.type "ValueError", .type "Exception", .type "BaseException", .type "object"] "ValueError.__new__" = true)
    (e_NoStep_s : PySem.W.subIn K (.ref C_NoStep) (.type "BaseException") = some true)
    (e_NoStep_t : PySem.W.typeIn K (.ref C_NoStep) = some (.type "type"))
    (e_DueError_g : PySem.W.specialIn K (.builtin "object.__class__") "__get__" = some (some (.builtin "getset_descriptor.__get__")))
    (e_DueError_k : PySem.W.takesIn K (.builtin "object.__class__") = some true)
    (e_NoPlan_ga : PySem.W.findIn K (.ref C_NoPlan) "__getattribute__" = some (some (.builtin "BaseException.__getattribute__")))
    (e_NoPlan_gg : PySem.W.findIn K (.ref C_NoPlan) "__getattr__" = some none)
    (e_NoPlan_s : PySem.W.subIn K (.ref C_NoPlan) (.type "BaseException") = some true)
    (e_NoPlan_d : PySem.W.hasDictIn K C_NoPlan = true)
    (e_NoPlan_cl : PySem.W.findIn K (.ref C_NoPlan) "__class__" = some (some (.builtin "object.__class__")))
    (e_NoPlan_mo : PySem.W.mroIn K C_NoPlan (.type "object") = some true)
    (e_NoPlan_n : PySem.W.findIn K (.ref C_NoPlan) "at" = some none)
    (e_NoStep_ga : PySem.W.findIn K (.ref C_NoStep) "__getattribute__" = some (some (.builtin "BaseException.__getattribute__")))
    (e_NoStep_gg : PySem.W.findIn K (.ref C_NoStep) "__getattr__" = some none)
    (e_NoStep_d : PySem.W.hasDictIn K C_NoStep = true)
    (e_NoStep_cl : PySem.W.findIn K (.ref C_NoStep) "__class__" = some (some (.builtin "object.__class__")))
    (e_NoStep_mo : PySem.W.mroIn K C_NoStep (.type "object") = some true)
    (e_NoPlan_t : PySem.W.typeIn K (.ref C_NoPlan) = some (.type "type"))
    (e_NoStep_uNoPlan : PySem.W.subIn K (.ref C_NoStep) (.ref C_NoPlan) = some false)
    (e_NoStep_vNoPlan : (false || decide (C_NoStep ≠ C_NoPlan)) = true)
    (e_NoPlan_uNoPlan : PySem.W.subIn K (.ref C_NoPlan) (.ref C_NoPlan) = some true)
    (e_NoPlan_vNoPlan : (true || decide (C_NoPlan ≠ C_NoPlan)) = true)
    (e_NoRow_d : PySem.W.hasDictIn K C_NoRow = true)
    (e_NoRow_t : PySem.W.typeIn K (.ref C_NoRow) = some (.type "type"))
    (e_NoStep_uNoRow : PySem.W.subIn K (.ref C_NoStep) (.ref C_NoRow) = some false)
    (e_NoStep_vNoRow : (false || decide (C_NoStep ≠ C_NoRow)) = true)
    (e_NoPlan_uNoRow : PySem.W.subIn K (.ref C_NoPlan) (.ref C_NoRow) = some false)
    (e_NoPlan_vNoRow : (false || decide (C_NoPlan ≠ C_NoRow)) = true)
    (e_NoStep_uNoStep : PySem.W.subIn K (.ref C_NoStep) (.ref C_NoStep) = some true)
    (e_NoStep_vNoStep : (true || decide (C_NoStep ≠ C_NoStep)) = true)
    (e_NoPlan_uNoStep : PySem.W.subIn K (.ref C_NoPlan) (.ref C_NoStep) = some false)
    (e_NoPlan_vNoStep : (false || decide (C_NoPlan ≠ C_NoStep)) = true)
    (e_NoTurns_d : PySem.W.hasDictIn K C_NoTurns = true)
    (e_NoTurns_t : PySem.W.typeIn K (.ref C_NoTurns) = some (.type "type"))
    (e_NoStep_uNoTurns : PySem.W.subIn K (.ref C_NoStep) (.ref C_NoTurns) = some false)
    (e_NoStep_vNoTurns : (false || decide (C_NoStep ≠ C_NoTurns)) = true)
    (e_NoPlan_uNoTurns : PySem.W.subIn K (.ref C_NoPlan) (.ref C_NoTurns) = some false)
    (e_NoPlan_vNoTurns : (false || decide (C_NoPlan ≠ C_NoTurns)) = true)
    (e_NoStep_ve : PySem.W.subIn K (.ref C_NoStep) (.type "ValueError") = some true)
    (e_NoPlan_ve : PySem.W.subIn K (.ref C_NoPlan) (.type "ValueError") = some true)
    (o_NoPlan : K.lookup C_NoPlan = some (excClassObj nm_NoPlan q_NoPlan C_NoPlan N_NoPlan bs_NoPlan bm_NoPlan true sn_NoPlan sub_NoPlan ab_NoPlan col_NoPlan dd_NoPlan k0_NoPlan k1_NoPlan k2_NoPlan k3_NoPlan k5_NoPlan "ValueError.__new__"))
    (r_NoPlan : PySem.HandSPX.refsVE bm_NoPlan = true)
    (e_NoPlan_sa : PySem.W.findIn K (.ref C_NoPlan) "__setattr__" = some (some (.builtin "object.__setattr__")))
    (e_NoPlan_kp : PySem.W.keepIn K (.ref C_NoPlan) = true)
    (e_NoPlan_in : PySem.W.findIn K (.ref C_NoPlan) "__init__" = some (some (.ref f_NoPlan_init)))
    (e_NoPlan_fi : PySem.W.typeIn K (.ref f_NoPlan_init) = some (.type "function"))
    (l_NoPlan_init : K.lookup f_NoPlan_init = some ⟨oc_NoPlan_init, od_NoPlan_init, .func (PySem.W.fnOf "__init__" "NoPlan.__init__" (defArgs s_NoPlan_init) (defBody s_NoPlan_init) (defScope s_NoPlan_init) .none kV_NoPlan_init dc_NoPlan_init pm_NoPlan_init an_NoPlan_init cd_NoPlan_init ct_NoPlan_init), sl_NoPlan_init⟩)
    (c_NoPlan_init : PySem.W.codeIn K cd_NoPlan_init "NoPlan.__init__" = true)
    (k_NoPlan_init : PySem.W.keepIn K (.ref f_NoPlan_init) = true)
    (a_is_whole : PySem.W.nsIn K mainGlobals "is_whole" = some (some (.ref f_is_whole)))
    (l_is_whole : K.lookup f_is_whole = some ⟨oc_is_whole, od_is_whole, .func (PySem.W.fnOf "is_whole" "is_whole" (defArgs s_is_whole) (defBody s_is_whole) (defScope s_is_whole) .none kV_is_whole dc_is_whole pm_is_whole an_is_whole cd_is_whole ct_is_whole), sl_is_whole⟩)
    (c_is_whole : PySem.W.codeIn K cd_is_whole "is_whole" = true)
    (k_is_whole : PySem.W.keepIn K (.ref f_is_whole) = true)
    (a_common : PySem.W.nsIn K mainGlobals "common" = some (some (.ref f_common)))
    (l_common : K.lookup f_common = some ⟨oc_common, od_common, .func (PySem.W.fnOf "common" "common" (defArgs s_common) (defBody s_common) (defScope s_common) .none kV_common dc_common pm_common an_common cd_common ct_common), sl_common⟩)
    (c_common : PySem.W.codeIn K cd_common "common" = true)
    (k_common : PySem.W.keepIn K (.ref f_common) = true)
    (a_made : PySem.W.nsIn K mainGlobals "made" = some (some (.ref f_made)))
    (l_made : K.lookup f_made = some ⟨oc_made, od_made, .func (PySem.W.fnOf "made" "made" (defArgs s_made) (defBody s_made) (defScope s_made) .none kV_made dc_made pm_made an_made cd_made ct_made), sl_made⟩)
    (c_made : PySem.W.codeIn K cd_made "made" = true)
    (k_made : PySem.W.keepIn K (.ref f_made) = true)
    (a_plus : PySem.W.nsIn K mainGlobals "plus" = some (some (.ref f_plus)))
    (l_plus : K.lookup f_plus = some ⟨oc_plus, od_plus, .func (PySem.W.fnOf "plus" "plus" (defArgs s_plus) (defBody s_plus) (defScope s_plus) .none kV_plus dc_plus pm_plus an_plus cd_plus ct_plus), sl_plus⟩)
    (c_plus : PySem.W.codeIn K cd_plus "plus" = true)
    (k_plus : PySem.W.keepIn K (.ref f_plus) = true)
    (a_minus : PySem.W.nsIn K mainGlobals "minus" = some (some (.ref f_minus)))
    (l_minus : K.lookup f_minus = some ⟨oc_minus, od_minus, .func (PySem.W.fnOf "minus" "minus" (defArgs s_minus) (defBody s_minus) (defScope s_minus) .none kV_minus dc_minus pm_minus an_minus cd_minus ct_minus), sl_minus⟩)
    (c_minus : PySem.W.codeIn K cd_minus "minus" = true)
    (k_minus : PySem.W.keepIn K (.ref f_minus) = true)
    (a_less : PySem.W.nsIn K mainGlobals "less" = some (some (.ref f_less)))
    (l_less : K.lookup f_less = some ⟨oc_less, od_less, .func (PySem.W.fnOf "less" "less" (defArgs s_less) (defBody s_less) (defScope s_less) .none kV_less dc_less pm_less an_less cd_less ct_less), sl_less⟩)
    (c_less : PySem.W.codeIn K cd_less "less" = true)
    (k_less : PySem.W.keepIn K (.ref f_less) = true)
    (a_are_weights : PySem.W.nsIn K mainGlobals "are_weights" = some (some (.ref f_are_weights)))
    (l_are_weights : K.lookup f_are_weights = some ⟨oc_are_weights, od_are_weights, .func (PySem.W.fnOf "are_weights" "are_weights" (defArgs s_are_weights) (defBody s_are_weights) (defScope s_are_weights) .none kV_are_weights dc_are_weights pm_are_weights an_are_weights cd_are_weights ct_are_weights), sl_are_weights⟩)
    (c_are_weights : PySem.W.codeIn K cd_are_weights "are_weights" = true)
    (k_are_weights : PySem.W.keepIn K (.ref f_are_weights) = true)
    (a_Credits_init : PySem.W.findIn K (.ref C_Credits) "__init__" = some (some (.ref f_Credits_init)))
    (i_Credits_init : PySem.W.isFn K (.ref f_Credits_init) = true)
    (l_Credits_init : K.lookup f_Credits_init = some ⟨oc_Credits_init, od_Credits_init, .func (PySem.W.fnOf "__init__" "Credits.__init__" (defArgs s_Credits_init) (defBody s_Credits_init) (defScope s_Credits_init) .none kV_Credits_init dc_Credits_init pm_Credits_init an_Credits_init cd_Credits_init ct_Credits_init), sl_Credits_init⟩)
    (c_Credits_init : PySem.W.codeIn K cd_Credits_init "Credits.__init__" = true)
    (k_Credits_init : PySem.W.keepIn K (.ref f_Credits_init) = true)
    (a_Credits_weights : PySem.W.findIn K (.ref C_Credits) "weights" = some (some (.ref f_Credits_weights)))
    (i_Credits_weights : PySem.W.isFn K (.ref f_Credits_weights) = true)
    (l_Credits_weights : K.lookup f_Credits_weights = some ⟨oc_Credits_weights, od_Credits_weights, .func (PySem.W.fnOf "weights" "Credits.weights" (defArgs s_Credits_weights) (defBody s_Credits_weights) (defScope s_Credits_weights) .none kV_Credits_weights dc_Credits_weights pm_Credits_weights an_Credits_weights cd_Credits_weights ct_Credits_weights), sl_Credits_weights⟩)
    (c_Credits_weights : PySem.W.codeIn K cd_Credits_weights "Credits.weights" = true)
    (k_Credits_weights : PySem.W.keepIn K (.ref f_Credits_weights) = true)
    (a_Credits_owing : PySem.W.findIn K (.ref C_Credits) "owing" = some (some (.ref f_Credits_owing)))
    (i_Credits_owing : PySem.W.isFn K (.ref f_Credits_owing) = true)
    (l_Credits_owing : K.lookup f_Credits_owing = some ⟨oc_Credits_owing, od_Credits_owing, .func (PySem.W.fnOf "owing" "Credits.owing" (defArgs s_Credits_owing) (defBody s_Credits_owing) (defScope s_Credits_owing) .none kV_Credits_owing dc_Credits_owing pm_Credits_owing an_Credits_owing cd_Credits_owing ct_Credits_owing), sl_Credits_owing⟩)
    (c_Credits_owing : PySem.W.codeIn K cd_Credits_owing "Credits.owing" = true)
    (k_Credits_owing : PySem.W.keepIn K (.ref f_Credits_owing) = true)
    (a_Credits_told : PySem.W.findIn K (.ref C_Credits) "told" = some (some (.ref f_Credits_told)))
    (i_Credits_told : PySem.W.isFn K (.ref f_Credits_told) = true)
    (l_Credits_told : K.lookup f_Credits_told = some ⟨oc_Credits_told, od_Credits_told, .func (PySem.W.fnOf "told" "Credits.told" (defArgs s_Credits_told) (defBody s_Credits_told) (defScope s_Credits_told) .none kV_Credits_told dc_Credits_told pm_Credits_told an_Credits_told cd_Credits_told ct_Credits_told), sl_Credits_told⟩)
    (c_Credits_told : PySem.W.codeIn K cd_Credits_told "Credits.told" = true)
    (k_Credits_told : PySem.W.keepIn K (.ref f_Credits_told) = true)
    (a_Credits_step : PySem.W.findIn K (.ref C_Credits) "step" = some (some (.ref f_Credits_step)))
    (i_Credits_step : PySem.W.isFn K (.ref f_Credits_step) = true)
    (l_Credits_step : K.lookup f_Credits_step = some ⟨oc_Credits_step, od_Credits_step, .func (PySem.W.fnOf "step" "Credits.step" (defArgs s_Credits_step) (defBody s_Credits_step) (defScope s_Credits_step) .none kV_Credits_step dc_Credits_step pm_Credits_step an_Credits_step cd_Credits_step ct_Credits_step), sl_Credits_step⟩)
    (c_Credits_step : PySem.W.codeIn K cd_Credits_step "Credits.step" = true)
    (k_Credits_step : PySem.W.keepIn K (.ref f_Credits_step) = true)
    (a_Credits_change : PySem.W.findIn K (.ref C_Credits) "change" = some (some (.ref f_Credits_change)))
    (i_Credits_change : PySem.W.isFn K (.ref f_Credits_change) = true)
    (l_Credits_change : K.lookup f_Credits_change = some ⟨oc_Credits_change, od_Credits_change, .func (PySem.W.fnOf "change" "Credits.change" (defArgs s_Credits_change) (defBody s_Credits_change) (defScope s_Credits_change) .none kV_Credits_change dc_Credits_change pm_Credits_change an_Credits_change cd_Credits_change ct_Credits_change), sl_Credits_change⟩)
    (c_Credits_change : PySem.W.codeIn K cd_Credits_change "Credits.change" = true)
    (k_Credits_change : PySem.W.keepIn K (.ref f_Credits_change) = true)
    (a_Credits_back : PySem.W.findIn K (.ref C_Credits) "back" = some (some (.ref f_Credits_back)))
    (i_Credits_back : PySem.W.isFn K (.ref f_Credits_back) = true)
    (l_Credits_back : K.lookup f_Credits_back = some ⟨oc_Credits_back, od_Credits_back, .func (PySem.W.fnOf "back" "Credits.back" (defArgs s_Credits_back) (defBody s_Credits_back) (defScope s_Credits_back) .none kV_Credits_back dc_Credits_back pm_Credits_back an_Credits_back cd_Credits_back ct_Credits_back), sl_Credits_back⟩)
    (c_Credits_back : PySem.W.codeIn K cd_Credits_back "Credits.back" = true)
    (k_Credits_back : PySem.W.keepIn K (.ref f_Credits_back) = true)
    (a_L_cell_at : PySem.W.nsIn K mainGlobals "_law_cell_at" = some (some (.ref f_L_cell_at)))
    (l_L_cell_at : K.lookup f_L_cell_at = some ⟨oc_L_cell_at, od_L_cell_at, .func (PySem.W.fnOf "_law_cell_at" "_law_cell_at" (defArgs s_L_cell_at) (defBody s_L_cell_at) (defScope s_L_cell_at) .none kV_L_cell_at dc_L_cell_at pm_L_cell_at an_L_cell_at cd_L_cell_at ct_L_cell_at), sl_L_cell_at⟩)
    (c_L_cell_at : PySem.W.codeIn K cd_L_cell_at "_law_cell_at" = true)
    (k_L_cell_at : PySem.W.keepIn K (.ref f_L_cell_at) = true)
    (a_L_draw : PySem.W.nsIn K mainGlobals "_law_draw" = some (some (.ref f_L_draw)))
    (l_L_draw : K.lookup f_L_draw = some ⟨oc_L_draw, od_L_draw, .func (PySem.W.fnOf "_law_draw" "_law_draw" (defArgs s_L_draw) (defBody s_L_draw) (defScope s_L_draw) .none kV_L_draw dc_L_draw pm_L_draw an_L_draw cd_L_draw ct_L_draw), sl_L_draw⟩)
    (c_L_draw : PySem.W.codeIn K cd_L_draw "_law_draw" = true)
    (k_L_draw : PySem.W.keepIn K (.ref f_L_draw) = true)
    (a_L_weight : PySem.W.nsIn K mainGlobals "_law_weight" = some (some (.ref f_L_weight)))
    (l_L_weight : K.lookup f_L_weight = some ⟨oc_L_weight, od_L_weight, .func (PySem.W.fnOf "_law_weight" "_law_weight" (defArgs s_L_weight) (defBody s_L_weight) (defScope s_L_weight) .none kV_L_weight dc_L_weight pm_L_weight an_L_weight cd_L_weight ct_L_weight), sl_L_weight⟩)
    (c_L_weight : PySem.W.codeIn K cd_L_weight "_law_weight" = true)
    (k_L_weight : PySem.W.keepIn K (.ref f_L_weight) = true)
    (a_L_weights : PySem.W.nsIn K mainGlobals "_law_weights" = some (some (.ref f_L_weights)))
    (l_L_weights : K.lookup f_L_weights = some ⟨oc_L_weights, od_L_weights, .func (PySem.W.fnOf "_law_weights" "_law_weights" (defArgs s_L_weights) (defBody s_L_weights) (defScope s_L_weights) .none kV_L_weights dc_L_weights pm_L_weights an_L_weights cd_L_weights ct_L_weights), sl_L_weights⟩)
    (c_L_weights : PySem.W.codeIn K cd_L_weights "_law_weights" = true)
    (k_L_weights : PySem.W.keepIn K (.ref f_L_weights) = true)
    (a_L_seen : PySem.W.nsIn K mainGlobals "_law_seen" = some (some (.ref f_L_seen)))
    (l_L_seen : K.lookup f_L_seen = some ⟨oc_L_seen, od_L_seen, .func (PySem.W.fnOf "_law_seen" "_law_seen" (defArgs s_L_seen) (defBody s_L_seen) (defScope s_L_seen) .none kV_L_seen dc_L_seen pm_L_seen an_L_seen cd_L_seen ct_L_seen), sl_L_seen⟩)
    (c_L_seen : PySem.W.codeIn K cd_L_seen "_law_seen" = true)
    (k_L_seen : PySem.W.keepIn K (.ref f_L_seen) = true)
    (a_L_said : PySem.W.nsIn K mainGlobals "_law_said" = some (some (.ref f_L_said)))
    (l_L_said : K.lookup f_L_said = some ⟨oc_L_said, od_L_said, .func (PySem.W.fnOf "_law_said" "_law_said" (defArgs s_L_said) (defBody s_L_said) (defScope s_L_said) .none kV_L_said dc_L_said pm_L_said an_L_said cd_L_said ct_L_said), sl_L_said⟩)
    (c_L_said : PySem.W.codeIn K cd_L_said "_law_said" = true)
    (k_L_said : PySem.W.keepIn K (.ref f_L_said) = true)
    (a_L_back : PySem.W.nsIn K mainGlobals "_law_back" = some (some (.ref f_L_back)))
    (l_L_back : K.lookup f_L_back = some ⟨oc_L_back, od_L_back, .func (PySem.W.fnOf "_law_back" "_law_back" (defArgs s_L_back) (defBody s_L_back) (defScope s_L_back) .none kV_L_back dc_L_back pm_L_back an_L_back cd_L_back ct_L_back), sl_L_back⟩)
    (c_L_back : PySem.W.codeIn K cd_L_back "_law_back" = true)
    (k_L_back : PySem.W.keepIn K (.ref f_L_back) = true)
    (a_L_none_made : PySem.W.nsIn K mainGlobals "_law_none_made" = some (some (.ref f_L_none_made)))
    (l_L_none_made : K.lookup f_L_none_made = some ⟨oc_L_none_made, od_L_none_made, .func (PySem.W.fnOf "_law_none_made" "_law_none_made" (defArgs s_L_none_made) (defBody s_L_none_made) (defScope s_L_none_made) .none kV_L_none_made dc_L_none_made pm_L_none_made an_L_none_made cd_L_none_made ct_L_none_made), sl_L_none_made⟩)
    (c_L_none_made : PySem.W.codeIn K cd_L_none_made "_law_none_made" = true)
    (k_L_none_made : PySem.W.keepIn K (.ref f_L_none_made) = true)
    (a_law : PySem.W.nsIn K mainGlobals "law" = some (some (.ref f_law)))
    (l_law : K.lookup f_law = some ⟨oc_law, od_law, .func (PySem.W.fnOf "law" "law" (defArgs s_law) (defBody s_law) (defScope s_law) .none kV_law dc_law pm_law an_law cd_law ct_law), sl_law⟩)
    (c_law : PySem.W.codeIn K cd_law "law" = true)
    (k_law : PySem.W.keepIn K (.ref f_law) = true) :
    ∃ fd : FuncData, (∀ (s : Shared) (u : Value), BindsTo s fd ⟨[u], []⟩ [("_law_script", u)]) ∧ ∀ base : Heap, K.In base → base.Ns mainGlobals mg → FnOk P w K mg base (L2.CX P w) 7 fa fd ["_law_script"] (spL K) := by
  have T : Tx K mg := ⟨PySem.W.mg_none_of X G z_b_ValueError, PySem.W.mg_none_of X G z_b_abs, PySem.W.mg_none_of X G z_b_bool, PySem.W.mg_none_of X G z_b_int, PySem.W.mg_none_of X G z_b_isinstance, PySem.W.mg_none_of X G z_b_len, PySem.W.mg_none_of X G z_b_list, PySem.W.mg_none_of X G z_b_range, PySem.W.mg_none_of X G z_b_sum, PySem.W.mg_none_of X G z_b_tuple, ⟨t_MOST_CLAIMANTS, PySem.W.mg_of X G z_c_MOST_CLAIMANTS⟩, ⟨t_MOST_WEIGHT, PySem.W.mg_of X G z_c_MOST_WEIGHT⟩, tup_mk X G z_c_NOUGHT_a z_c_NOUGHT_l rfl rfl (by rw [sizeLine_eq]; show (2 : Nat) ≤ 16777216; decide) (.cons ⟨t_NOUGHT_0, rfl⟩ (.cons ⟨t_NOUGHT_1, rfl⟩ (.nil))), due_mk X G e_DueError_a e_DueError_sg e_DueError_t e_DueError_rd e_DueError_fc, ⟨C_DueError, PySem.W.mg_of X G e_DueError_a, (al1 (c := .NoPlan) (dx_mk X G e_NoPlan_a e_DueError_s e_DueError_d e_DueError_t e_NoPlan_uDueError) (al1 (c := .NoStep) (dx_mk X G e_NoStep_a e_DueError_s e_DueError_d e_DueError_t e_NoStep_uDueError) al0))⟩, cls_mk X G y_Credits_a y_Credits_p y_Credits_h y_Credits_o y_Credits_s (fun f hf => by simp only [List.mem_cons, List.not_mem_nil, or_false] at hf; rcases hf with h | h | h | h <;> rw [h] <;> first | exact y_Credits_f0 | exact y_Credits_f1 | exact y_Credits_f2 | exact y_Credits_f3), exc_mk X G e_NoStep_a z_x_NoStep_k z_x_NoStep_q e_NoStep_s e_NoStep_t, ⟨(al1 (c := .NoPlan) (xa_mk X G e_NoPlan_a ⟨e_NoPlan_ga, e_NoPlan_gg, e_NoPlan_s, e_NoPlan_d, e_NoPlan_cl, e_DueError_g, e_DueError_k, e_NoPlan_mo⟩ e_NoPlan_n) al0)⟩, ⟨(al1 (c := .NoPlan) (xc_mk X G e_NoPlan_a ⟨e_NoPlan_ga, e_NoPlan_gg, e_NoPlan_s, e_NoPlan_d, e_NoPlan_cl, e_DueError_g, e_DueError_k, e_NoPlan_mo⟩) (al1 (c := .NoStep) (xc_mk X G e_NoStep_a ⟨e_NoStep_ga, e_NoStep_gg, e_NoStep_s, e_NoStep_d, e_NoStep_cl, e_DueError_g, e_DueError_k, e_NoStep_mo⟩) al0))⟩, ⟨C_NoPlan, PySem.W.mg_of X G e_NoPlan_a, (al1 (c := .NoPlan) (xp_mk X G e_NoPlan_a e_NoPlan_d e_NoPlan_t e_NoPlan_uNoPlan e_NoPlan_vNoPlan rfl) (al1 (c := .NoStep) (xp_mk X G e_NoStep_a e_NoPlan_d e_NoPlan_t e_NoStep_uNoPlan e_NoStep_vNoPlan rfl) al0))⟩, ⟨C_NoRow, PySem.W.mg_of X G e_NoRow_a, (al1 (c := .NoPlan) (xp_mk X G e_NoPlan_a e_NoRow_d e_NoRow_t e_NoPlan_uNoRow e_NoPlan_vNoRow rfl) (al1 (c := .NoStep) (xp_mk X G e_NoStep_a e_NoRow_d e_NoRow_t e_NoStep_uNoRow e_NoStep_vNoRow rfl) al0))⟩, ⟨C_NoStep, PySem.W.mg_of X G e_NoStep_a, (al1 (c := .NoPlan) (xp_mk X G e_NoPlan_a e_NoStep_d e_NoStep_t e_NoPlan_uNoStep e_NoPlan_vNoStep rfl) (al1 (c := .NoStep) (xp_mk X G e_NoStep_a e_NoStep_d e_NoStep_t e_NoStep_uNoStep e_NoStep_vNoStep rfl) al0))⟩, ⟨C_NoTurns, PySem.W.mg_of X G e_NoTurns_a, (al1 (c := .NoPlan) (xp_mk X G e_NoPlan_a e_NoTurns_d e_NoTurns_t e_NoPlan_uNoTurns e_NoPlan_vNoTurns rfl) (al1 (c := .NoStep) (xp_mk X G e_NoStep_a e_NoTurns_d e_NoTurns_t e_NoStep_uNoTurns e_NoStep_vNoTurns rfl) al0))⟩, ⟨(al1 (c := .NoPlan) (xv_mk X G e_NoPlan_a e_NoPlan_ve) (al1 (c := .NoStep) (xv_mk X G e_NoStep_a e_NoStep_ve) al0))⟩⟩
  have F_NoPlan_init := oe_mk (c := .NoPlan) (st := s_NoPlan_init) (ps := ["self", "at"]) X G e_NoPlan_a o_NoPlan r_NoPlan e_NoPlan_sa e_NoPlan_s e_NoPlan_t e_NoPlan_kp e_NoPlan_in e_NoPlan_fi e_NoPlan_n l_NoPlan_init c_NoPlan_init k_NoPlan_init (fun _ _ _ _ _ _ us hl => match us, hl with | [_, _], _ => rfl)
  have F_is_whole := ff_mk (st := s_is_whole) (ps := ["thing"]) X G a_is_whole l_is_whole c_is_whole k_is_whole (fun _ _ _ _ _ _ us hl => match us, hl with | [_], _ => rfl)
  have F_common := ff_mk (st := s_common) (ps := ["one", "other"]) X G a_common l_common c_common k_common (fun _ _ _ _ _ _ us hl => match us, hl with | [_, _], _ => rfl)
  have F_made := ff_mk (st := s_made) (ps := ["top", "bottom"]) X G a_made l_made c_made k_made (fun _ _ _ _ _ _ us hl => match us, hl with | [_, _], _ => rfl)
  have F_plus := ff_mk (st := s_plus) (ps := ["one", "other"]) X G a_plus l_plus c_plus k_plus (fun _ _ _ _ _ _ us hl => match us, hl with | [_, _], _ => rfl)
  have F_minus := ff_mk (st := s_minus) (ps := ["one", "other"]) X G a_minus l_minus c_minus k_minus (fun _ _ _ _ _ _ us hl => match us, hl with | [_, _], _ => rfl)
  have F_less := ff_mk (st := s_less) (ps := ["one", "other"]) X G a_less l_less c_less k_less (fun _ _ _ _ _ _ us hl => match us, hl with | [_, _], _ => rfl)
  have F_are_weights := ff_mk (st := s_are_weights) (ps := ["thing"]) X G a_are_weights l_are_weights c_are_weights k_are_weights (fun _ _ _ _ _ _ us hl => match us, hl with | [_], _ => rfl)
  have F_Credits_init := if_mk (st := s_Credits_init) (ps := ["self", "weights"]) X G y_Credits_a y_Credits_m y_Credits_k a_Credits_init i_Credits_init l_Credits_init c_Credits_init k_Credits_init (fun _ _ _ _ _ _ us hl => match us, hl with | [_, _], _ => rfl)
  have F_Credits_weights := mf_mk (st := s_Credits_weights) (ps := ["self"]) X G y_Credits_a y_Credits_p y_Credits_h y_Credits_o y_Credits_s a_Credits_weights i_Credits_weights l_Credits_weights c_Credits_weights k_Credits_weights (fun _ _ _ _ _ _ us hl => match us, hl with | [_], _ => rfl)
  have F_Credits_owing := mf_mk (st := s_Credits_owing) (ps := ["self"]) X G y_Credits_a y_Credits_p y_Credits_h y_Credits_o y_Credits_s a_Credits_owing i_Credits_owing l_Credits_owing c_Credits_owing k_Credits_owing (fun _ _ _ _ _ _ us hl => match us, hl with | [_], _ => rfl)
  have F_Credits_told := mf_mk (st := s_Credits_told) (ps := ["self"]) X G y_Credits_a y_Credits_p y_Credits_h y_Credits_o y_Credits_s a_Credits_told i_Credits_told l_Credits_told c_Credits_told k_Credits_told (fun _ _ _ _ _ _ us hl => match us, hl with | [_], _ => rfl)
  have F_Credits_step := mf_mk (st := s_Credits_step) (ps := ["self"]) X G y_Credits_a y_Credits_p y_Credits_h y_Credits_o y_Credits_s a_Credits_step i_Credits_step l_Credits_step c_Credits_step k_Credits_step (fun _ _ _ _ _ _ us hl => match us, hl with | [_], _ => rfl)
  have F_Credits_change := mf_mk (st := s_Credits_change) (ps := ["self", "weights"]) X G y_Credits_a y_Credits_p y_Credits_h y_Credits_o y_Credits_s a_Credits_change i_Credits_change l_Credits_change c_Credits_change k_Credits_change (fun _ _ _ _ _ _ us hl => match us, hl with | [_, _], _ => rfl)
  have F_Credits_back := mf_mk (st := s_Credits_back) (ps := ["self"]) X G y_Credits_a y_Credits_p y_Credits_h y_Credits_o y_Credits_s a_Credits_back i_Credits_back l_Credits_back c_Credits_back k_Credits_back (fun _ _ _ _ _ _ us hl => match us, hl with | [_], _ => rfl)
  have F_L_cell_at := ff_mk (st := s_L_cell_at) (ps := ["_law_script", "_law_k"]) X G a_L_cell_at l_L_cell_at c_L_cell_at k_L_cell_at (fun _ _ _ _ _ _ us hl => match us, hl with | [_, _], _ => rfl)
  have F_L_draw := ff_mk (st := s_L_draw) (ps := ["_law_cell", "_law_k", "_law_bound"]) X G a_L_draw l_L_draw c_L_draw k_L_draw (fun _ _ _ _ _ _ us hl => match us, hl with | [_, _, _], _ => rfl)
  have F_L_weight := ff_mk (st := s_L_weight) (ps := ["_law_cell", "_law_k"]) X G a_L_weight l_L_weight c_L_weight k_L_weight (fun _ _ _ _ _ _ us hl => match us, hl with | [_, _], _ => rfl)
  have F_L_weights := ff_mk (st := s_L_weights) (ps := ["_law_cell", "_law_many"]) X G a_L_weights l_L_weights c_L_weights k_L_weights (fun _ _ _ _ _ _ us hl => match us, hl with | [_, _], _ => rfl)
  have F_L_seen := ff_mk (st := s_L_seen) (ps := ["_law_keeper"]) X G a_L_seen l_L_seen c_L_seen k_L_seen (fun _ _ _ _ _ _ us hl => match us, hl with | [_], _ => rfl)
  have F_L_said := ff_mk (st := s_L_said) (ps := ["_law_keeper", "_law_way", "_law_thing"]) X G a_L_said l_L_said c_L_said k_L_said (fun _ _ _ _ _ _ us hl => match us, hl with | [_, _, _], _ => rfl)
  have F_L_back := ff_mk (st := s_L_back) (ps := ["_law_keeper", "_law_past"]) X G a_L_back l_L_back c_L_back k_L_back (fun _ _ _ _ _ _ us hl => match us, hl with | [_, _], _ => rfl)
  have F_L_none_made := ff_mk (st := s_L_none_made) (ps := ["_law_keeper", "_law_many"]) X G a_L_none_made l_L_none_made c_L_none_made k_L_none_made (fun _ _ _ _ _ _ us hl => match us, hl with | [_, _], _ => rfl)
  refine law_mkT X G hfa a_law l_law c_law k_law (fun s v => .of_eq rfl) sc_law rfl (fun ex base f cdv A outer s H E hr => ?_) law_true
  have h_NoPlan_init := ok_NoPlan_init (P := P) (w := w) (base := base) T F_NoPlan_init 
  have h_is_whole := ok_is_whole (P := P) (w := w) (base := base) T F_is_whole 
  have h_common := ok_common (P := P) (w := w) (base := base) T F_common 
  have h_made := ok_made (P := P) (w := w) (base := base) T F_made h_common
  have h_plus := ok_plus (P := P) (w := w) (base := base) T F_plus h_made
  have h_minus := ok_minus (P := P) (w := w) (base := base) T F_minus h_made
  have h_less := ok_less (P := P) (w := w) (base := base) T F_less 
  have h_are_weights := ok_are_weights (P := P) (w := w) (base := base) T F_are_weights h_is_whole
  have h_Credits_init := ok_Credits_init (P := P) (w := w) (base := base) T F_Credits_init h_NoPlan_init h_are_weights
  have h_Credits_weights := ok_Credits_weights (P := P) (w := w) (base := base) T F_Credits_weights 
  have h_Credits_owing := ok_Credits_owing (P := P) (w := w) (base := base) T F_Credits_owing 
  have h_Credits_told := ok_Credits_told (P := P) (w := w) (base := base) T F_Credits_told 
  have h_Credits_step := ok_Credits_step (P := P) (w := w) (base := base) T F_Credits_step h_made h_plus h_minus h_less
  have h_Credits_change := ok_Credits_change (P := P) (w := w) (base := base) T F_Credits_change h_NoPlan_init h_are_weights
  have h_Credits_back := ok_Credits_back (P := P) (w := w) (base := base) T F_Credits_back 
  have h_L_cell_at := ok_L_cell_at (P := P) (w := w) (base := base) T F_L_cell_at 
  have h_L_draw := ok_L_draw (P := P) (w := w) (base := base) T F_L_draw 
  have h_L_weight := ok_L_weight (P := P) (w := w) (base := base) T F_L_weight h_L_draw
  have h_L_weights := ok_L_weights (P := P) (w := w) (base := base) T F_L_weights h_L_draw h_L_weight
  have h_L_seen := ok_L_seen (P := P) (w := w) (base := base) T F_L_seen h_Credits_weights h_Credits_owing h_Credits_told
  have h_L_said := ok_L_said (P := P) (w := w) (base := base) T F_L_said h_Credits_init h_Credits_change h_Credits_back
  have h_L_back := ok_L_back (P := P) (w := w) (base := base) T F_L_back h_L_seen h_L_said
  have h_L_none_made := ok_L_none_made (P := P) (w := w) (base := base) T F_L_none_made h_L_said
  exact ok_law T ex f cdv A outer s H E hr h_Credits_init h_Credits_owing h_Credits_told h_Credits_step h_Credits_change h_Credits_back h_L_cell_at h_L_draw h_L_weights h_L_seen h_L_said h_L_back h_L_none_made
end DL
open PySem PySem.W PyProof.Rows
theorem PySem.Challenge.cw_dueturns_k32_deeds_taken_back_holds : PySem.Challenge.rw_dueturns_k32_deeds_taken_back.Holds := by
  w_on; o_law; k_head; (case hw => w_witness2)
  k_fill
  refine DL.walkD (l := PySem.Challenge.rw_dueturns_k32_deeds_taken_back) (k := 7) (x := "_law_script") rfl rfl ⟨rfl, by decide, by decide⟩ (fun w h Y => PySem.W.kIn_of Y) ?F
  case F =>
    intro w mg fa h KX G hmg
    refine' DL.all_mk KX G hmg ?y_Credits_a ?y_Credits_p ?y_Credits_h ?y_Credits_o ?y_Credits_s ?y_Credits_m ?y_Credits_k ?y_Credits_f0 ?y_Credits_f1 ?y_Credits_f2 ?y_Credits_f3 ?e_DueError_a ?e_NoPlan_a ?e_NoRow_a ?e_NoStep_a ?e_NoTurns_a ?z_b_ValueError ?z_b_abs ?z_b_bool ?z_b_int ?z_b_isinstance ?z_b_len ?z_b_list ?z_b_range ?z_b_sum ?z_b_tuple ?z_c_MOST_CLAIMANTS ?z_c_MOST_WEIGHT ?z_c_NOUGHT_a ?z_c_NOUGHT_l ?e_DueError_sg ?e_DueError_t ?e_DueError_rd ?e_DueError_fc ?e_DueError_s ?e_DueError_d ?e_NoStep_uDueError ?e_NoPlan_uDueError ?z_x_NoStep_k ?z_x_NoStep_q ?e_NoStep_s ?e_NoStep_t ?e_DueError_g ?e_DueError_k ?e_NoPlan_ga ?e_NoPlan_gg ?e_NoPlan_s ?e_NoPlan_d ?e_NoPlan_cl ?e_NoPlan_mo ?e_NoPlan_n ?e_NoStep_ga ?e_NoStep_gg ?e_NoStep_d ?e_NoStep_cl ?e_NoStep_mo ?e_NoPlan_t ?e_NoStep_uNoPlan ?e_NoStep_vNoPlan ?e_NoPlan_uNoPlan ?e_NoPlan_vNoPlan ?e_NoRow_d ?e_NoRow_t ?e_NoStep_uNoRow ?e_NoStep_vNoRow ?e_NoPlan_uNoRow ?e_NoPlan_vNoRow ?e_NoStep_uNoStep ?e_NoStep_vNoStep ?e_NoPlan_uNoStep ?e_NoPlan_vNoStep ?e_NoTurns_d ?e_NoTurns_t ?e_NoStep_uNoTurns ?e_NoStep_vNoTurns ?e_NoPlan_uNoTurns ?e_NoPlan_vNoTurns ?e_NoStep_ve ?e_NoPlan_ve ?o_NoPlan ?r_NoPlan ?e_NoPlan_sa ?e_NoPlan_kp ?e_NoPlan_in ?e_NoPlan_fi ?l_NoPlan_init ?c_NoPlan_init ?k_NoPlan_init ?a_is_whole ?l_is_whole ?c_is_whole ?k_is_whole ?a_common ?l_common ?c_common ?k_common ?a_made ?l_made ?c_made ?k_made ?a_plus ?l_plus ?c_plus ?k_plus ?a_minus ?l_minus ?c_minus ?k_minus ?a_less ?l_less ?c_less ?k_less ?a_are_weights ?l_are_weights ?c_are_weights ?k_are_weights ?a_Credits_init ?i_Credits_init ?l_Credits_init ?c_Credits_init ?k_Credits_init ?a_Credits_weights ?i_Credits_weights ?l_Credits_weights ?c_Credits_weights ?k_Credits_weights ?a_Credits_owing ?i_Credits_owing ?l_Credits_owing ?c_Credits_owing ?k_Credits_owing ?a_Credits_told ?i_Credits_told ?l_Credits_told ?c_Credits_told ?k_Credits_told ?a_Credits_step ?i_Credits_step ?l_Credits_step ?c_Credits_step ?k_Credits_step ?a_Credits_change ?i_Credits_change ?l_Credits_change ?c_Credits_change ?k_Credits_change ?a_Credits_back ?i_Credits_back ?l_Credits_back ?c_Credits_back ?k_Credits_back ?a_L_cell_at ?l_L_cell_at ?c_L_cell_at ?k_L_cell_at ?a_L_draw ?l_L_draw ?c_L_draw ?k_L_draw ?a_L_weight ?l_L_weight ?c_L_weight ?k_L_weight ?a_L_weights ?l_L_weights ?c_L_weights ?k_L_weights ?a_L_seen ?l_L_seen ?c_L_seen ?k_L_seen ?a_L_said ?l_L_said ?c_L_said ?k_L_said ?a_L_back ?l_L_back ?c_L_back ?k_L_back ?a_L_none_made ?l_L_none_made ?c_L_none_made ?k_L_none_made ?a_law ?l_law ?c_law ?k_law
    (case y_Credits_a => k_is)
    (case y_Credits_p => k_is)
    (case y_Credits_h => k_is)
    (case y_Credits_o => k_is)
    (case y_Credits_s => k_is)
    (case y_Credits_m => k_is)
    (case y_Credits_k => k_is)
    (case y_Credits_f0 => k_is)
    (case y_Credits_f1 => k_is)
    (case y_Credits_f2 => k_is)
    (case y_Credits_f3 => k_is)
    (case e_DueError_a => k_is)
    (case e_NoPlan_a => k_is)
    (case e_NoRow_a => k_is)
    (case e_NoStep_a => k_is)
    (case e_NoTurns_a => k_is)
    (case z_b_ValueError => k_is)
    (case z_b_abs => k_is)
    (case z_b_bool => k_is)
    (case z_b_int => k_is)
    (case z_b_isinstance => k_is)
    (case z_b_len => k_is)
    (case z_b_list => k_is)
    (case z_b_range => k_is)
    (case z_b_sum => k_is)
    (case z_b_tuple => k_is)
    (case z_c_MOST_CLAIMANTS => k_is)
    (case z_c_MOST_WEIGHT => k_is)
    (case z_c_NOUGHT_a => k_is)
    (case z_c_NOUGHT_l => k_is)
    (case e_DueError_sg => k_is)
    (case e_DueError_t => k_is)
    (case e_DueError_rd => k_is)
    (case e_DueError_fc => k_is)
    (case e_DueError_s => k_is)
    (case e_DueError_d => k_is)
    (case e_NoStep_uDueError => k_is)
    (case e_NoPlan_uDueError => k_is)
    (case z_x_NoStep_k => k_is)
    (case z_x_NoStep_q => k_exc)
    (case e_NoStep_s => k_is)
    (case e_NoStep_t => k_is)
    (case e_DueError_g => k_is)
    (case e_DueError_k => k_is)
    (case e_NoPlan_ga => k_is)
    (case e_NoPlan_gg => k_is)
    (case e_NoPlan_s => k_is)
    (case e_NoPlan_d => k_is)
    (case e_NoPlan_cl => k_is)
    (case e_NoPlan_mo => k_is)
    (case e_NoPlan_n => k_is)
    (case e_NoStep_ga => k_is)
    (case e_NoStep_gg => k_is)
    (case e_NoStep_d => k_is)
    (case e_NoStep_cl => k_is)
    (case e_NoStep_mo => k_is)
    (case e_NoPlan_t => k_is)
    (case e_NoStep_uNoPlan => k_is)
    (case e_NoStep_vNoPlan => decide)
    (case e_NoPlan_uNoPlan => k_is)
    (case e_NoPlan_vNoPlan => decide)
    (case e_NoRow_d => k_is)
    (case e_NoRow_t => k_is)
    (case e_NoStep_uNoRow => k_is)
    (case e_NoStep_vNoRow => decide)
    (case e_NoPlan_uNoRow => k_is)
    (case e_NoPlan_vNoRow => decide)
    (case e_NoStep_uNoStep => k_is)
    (case e_NoStep_vNoStep => decide)
    (case e_NoPlan_uNoStep => k_is)
    (case e_NoPlan_vNoStep => decide)
    (case e_NoTurns_d => k_is)
    (case e_NoTurns_t => k_is)
    (case e_NoStep_uNoTurns => k_is)
    (case e_NoStep_vNoTurns => decide)
    (case e_NoPlan_uNoTurns => k_is)
    (case e_NoPlan_vNoTurns => decide)
    (case e_NoStep_ve => k_is)
    (case e_NoPlan_ve => k_is)
    (case o_NoPlan => k_is)
    (case r_NoPlan => rfl)
    (case e_NoPlan_sa => k_is)
    (case e_NoPlan_kp => k_is)
    (case e_NoPlan_in => k_is)
    (case e_NoPlan_fi => k_is)
    (case l_NoPlan_init => k_is)
    (case c_NoPlan_init => k_is)
    (case k_NoPlan_init => k_is)
    (case a_is_whole => k_is)
    (case l_is_whole => k_is)
    (case c_is_whole => k_is)
    (case k_is_whole => k_is)
    (case a_common => k_is)
    (case l_common => k_is)
    (case c_common => k_is)
    (case k_common => k_is)
    (case a_made => k_is)
    (case l_made => k_is)
    (case c_made => k_is)
    (case k_made => k_is)
    (case a_plus => k_is)
    (case l_plus => k_is)
    (case c_plus => k_is)
    (case k_plus => k_is)
    (case a_minus => k_is)
    (case l_minus => k_is)
    (case c_minus => k_is)
    (case k_minus => k_is)
    (case a_less => k_is)
    (case l_less => k_is)
    (case c_less => k_is)
    (case k_less => k_is)
    (case a_are_weights => k_is)
    (case l_are_weights => k_is)
    (case c_are_weights => k_is)
    (case k_are_weights => k_is)
    (case a_Credits_init => k_is)
    (case i_Credits_init => k_is)
    (case l_Credits_init => k_is)
    (case c_Credits_init => k_is)
    (case k_Credits_init => k_is)
    (case a_Credits_weights => k_is)
    (case i_Credits_weights => k_is)
    (case l_Credits_weights => k_is)
    (case c_Credits_weights => k_is)
    (case k_Credits_weights => k_is)
    (case a_Credits_owing => k_is)
    (case i_Credits_owing => k_is)
    (case l_Credits_owing => k_is)
    (case c_Credits_owing => k_is)
    (case k_Credits_owing => k_is)
    (case a_Credits_told => k_is)
    (case i_Credits_told => k_is)
    (case l_Credits_told => k_is)
    (case c_Credits_told => k_is)
    (case k_Credits_told => k_is)
    (case a_Credits_step => k_is)
    (case i_Credits_step => k_is)
    (case l_Credits_step => k_is)
    (case c_Credits_step => k_is)
    (case k_Credits_step => k_is)
    (case a_Credits_change => k_is)
    (case i_Credits_change => k_is)
    (case l_Credits_change => k_is)
    (case c_Credits_change => k_is)
    (case k_Credits_change => k_is)
    (case a_Credits_back => k_is)
    (case i_Credits_back => k_is)
    (case l_Credits_back => k_is)
    (case c_Credits_back => k_is)
    (case k_Credits_back => k_is)
    (case a_L_cell_at => k_is)
    (case l_L_cell_at => k_is)
    (case c_L_cell_at => k_is)
    (case k_L_cell_at => k_is)
    (case a_L_draw => k_is)
    (case l_L_draw => k_is)
    (case c_L_draw => k_is)
    (case k_L_draw => k_is)
    (case a_L_weight => k_is)
    (case l_L_weight => k_is)
    (case c_L_weight => k_is)
    (case k_L_weight => k_is)
    (case a_L_weights => k_is)
    (case l_L_weights => k_is)
    (case c_L_weights => k_is)
    (case k_L_weights => k_is)
    (case a_L_seen => k_is)
    (case l_L_seen => k_is)
    (case c_L_seen => k_is)
    (case k_L_seen => k_is)
    (case a_L_said => k_is)
    (case l_L_said => k_is)
    (case c_L_said => k_is)
    (case k_L_said => k_is)
    (case a_L_back => k_is)
    (case l_L_back => k_is)
    (case c_L_back => k_is)
    (case k_L_back => k_is)
    (case a_L_none_made => k_is)
    (case l_L_none_made => k_is)
    (case c_L_none_made => k_is)
    (case k_L_none_made => k_is)
    (case a_law => k_is)
    (case l_law => k_is)
    (case c_law => k_is)
    (case k_law => k_is)

