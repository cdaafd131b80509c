import PyProof.Rows.All
import Wide.All
import OpenK.AllK
import Wide.FinOn
import HandS.ForMost
import HandS.ForExc
import HandS.Walk
import HandS.Wide
import HandS.TupAny
import HandS.TupMul
import HandS.IsInst
import HandS.Text
import HandS.TryOnly
import KE.KDictZip
import HandS.RaiseMore
import PySem.Challenge.RW_dueturns_k44_first_apart
set_option Elab.async false
set_option linter.all false
set_option maxRecDepth 100000
set_option maxHeartbeats 4000000
namespace DL
open PySem PySem.Spec PyProof.Rows L2

/-! ### the data of a value -/
inductive D where
  | non
  | bl (b : Bool)
  | int (i : Int)
  | str (x : Str)
  | lst (xs : List D)
  | fls (xs : List D)
  | tup (xs : List D)
  | ctp (xs : List D)
  | dic (kvs : List (D × D))
  | obj (c : Str) (fs : List (Str × D))

/-- the written part and the names of the module -/
structure Gd where
  K : PySem.W.Frag
  mg : Str → Option Value

def keyD : Key → D
  | .inl i => .int i
  | .inr x => .str x

section
variable (G : Gd) (B : Hp)
mutual
def Rep : D → V → Prop
  | .non, v => v = .non
  | .bl b, v => v = .bl b
  | .int i, v => v = .int i
  | .str x, v => v = .str x
  | .lst ds, v => ∃ a xs, v = .ref a ∧ B a = some (.lst xs) ∧ Reps ds xs
  | .fls ds, v => ∃ a xs, v = .ref a ∧ SqL G.K B a xs ∧ Reps ds xs
  | .tup ds, v => ∃ a xs, v = .ref a ∧ B a = some (.tup xs) ∧ Reps ds xs
  | .ctp ds, v => ∃ a xs, v = .ref a ∧ SqT G.K B a xs ∧ Reps ds xs
  | .dic kvs, v => ∃ a, v = .ref a ∧ ((∃ t, Rd B a (.dT t) ∧ RepT kvs t) ∨ (∃ t, Rd B a (.dK t) ∧ RepK kvs t))
  | .obj c fs, v => ∃ a C dx gs, v = .ref a ∧ G.mg c = some (.ref C) ∧ B a = some (.ins C dx gs) ∧ RepF fs gs
def Reps : List D → List V → Prop
  | [], vs => vs = []
  | d :: ds, vs => ∃ v r, vs = v :: r ∧ Rep d v ∧ Reps ds r
def RepF : List (Str × D) → List (Str × V) → Prop
  | [], gs => gs = []
  | (f, d) :: fs, gs => ∃ v r, gs = (f, v) :: r ∧ Rep d v ∧ RepF fs r
def RepT : List (D × D) → List (List Key × V) → Prop
  | [], gs => gs = []
  | (k, d) :: fs, gs => ∃ ks v r, gs = (ks, v) :: r ∧ k = .tup (ks.map keyD) ∧ Rep d v ∧ RepT fs r
def RepK : List (D × D) → List (Key × V) → Prop
  | [], gs => gs = []
  | (k, d) :: fs, gs => ∃ ky v r, gs = (ky, v) :: r ∧ k = keyD ky ∧ Rep d v ∧ RepK fs r
end
end

/-! ### heaps -/
theorem same_upd {H : Hp} {p : Addr} {o : HO} (hp : H p = none) : Same H (upd H p o) := fun b u e => by
  rw [upd_ne (ne_of_none e hp)]
  exact e
theorem rd_mono {B B' : Hp} {a : Addr} {u : HO} (h : Same B B') (r : Rd B a u) : Rd B' a u := by
  rcases r with r | ⟨o, r⟩
  · exact .inl (h _ _ r)
  · exact .inr ⟨o, h _ _ r⟩
theorem sql_mono {K : PySem.W.Frag} {B B' : Hp} {a : Addr} {xs : List V} (h : Same B B') (r : SqL K B a xs) : SqL K B' a xs := by
  rcases r with r | r
  · exact .inl (rd_mono h r)
  · exact .inr r
theorem sqt_mono {K : PySem.W.Frag} {B B' : Hp} {a : Addr} {xs : List V} (h : Same B B') (r : SqT K B a xs) : SqT K B' a xs := by
  rcases r with r | r
  · exact .inl (rd_mono h r)
  · exact .inr r
section
variable {G : Gd} {B B' : Hp}
mutual
theorem rep_mono (h : Same B B') : ∀ (d : D) (v : V), Rep G B d v → Rep G B' d v
  | .non, v, r => by simpa only [Rep] using r
  | .bl b, v, r => by simpa only [Rep] using r
  | .int i, v, r => by simpa only [Rep] using r
  | .str x, v, r => by simpa only [Rep] using r
  | .lst ds, v, r => by
    simp only [Rep] at r ⊢
    obtain ⟨a, xs, e, q, rs⟩ := r
    exact ⟨a, xs, e, h _ _ q, reps_mono h ds xs rs⟩
  | .fls ds, v, r => by
    simp only [Rep] at r ⊢
    obtain ⟨a, xs, e, q, rs⟩ := r
    exact ⟨a, xs, e, sql_mono h q, reps_mono h ds xs rs⟩
  | .tup ds, v, r => by
    simp only [Rep] at r ⊢
    obtain ⟨a, xs, e, q, rs⟩ := r
    exact ⟨a, xs, e, h _ _ q, reps_mono h ds xs rs⟩
  | .ctp ds, v, r => by
    simp only [Rep] at r ⊢
    obtain ⟨a, xs, e, q, rs⟩ := r
    exact ⟨a, xs, e, sqt_mono h q, reps_mono h ds xs rs⟩
  | .dic kvs, v, r => by
    simp only [Rep] at r ⊢
    obtain ⟨a, e, q⟩ := r
    refine ⟨a, e, ?_⟩
    rcases q with ⟨t, q, rs⟩ | ⟨t, q, rs⟩
    · exact .inl ⟨t, rd_mono h q, rept_mono h kvs t rs⟩
    · exact .inr ⟨t, rd_mono h q, repk_mono h kvs t rs⟩
  | .obj c fs, v, r => by
    simp only [Rep] at r ⊢
    obtain ⟨a, C, dx, gs, e, m, q, rs⟩ := r
    exact ⟨a, C, dx, gs, e, m, h _ _ q, repf_mono h fs gs rs⟩
theorem reps_mono (h : Same B B') : ∀ (ds : List D) (vs : List V), Reps G B ds vs → Reps G B' ds vs
  | [], vs, r => by simpa only [Reps] using r
  | d :: ds, vs, r => by
    simp only [Reps] at r ⊢
    obtain ⟨v, t, e, r1, r2⟩ := r
    exact ⟨v, t, e, rep_mono h d v r1, reps_mono h ds t r2⟩
theorem repf_mono (h : Same B B') : ∀ (ds : List (Str × D)) (vs : List (Str × V)), RepF G B ds vs → RepF G B' ds vs
  | [], vs, r => by simpa only [RepF] using r
  | (f, d) :: ds, vs, r => by
    simp only [RepF] at r ⊢
    obtain ⟨v, t, e, r1, r2⟩ := r
    exact ⟨v, t, e, rep_mono h d v r1, repf_mono h ds t r2⟩
theorem rept_mono (h : Same B B') : ∀ (ds : List (D × D)) (vs : List (List Key × V)), RepT G B ds vs → RepT G B' ds vs
  | [], vs, r => by simpa only [RepT] using r
  | (k, d) :: ds, vs, r => by
    simp only [RepT] at r ⊢
    obtain ⟨ks, v, t, e, ek, r1, r2⟩ := r
    exact ⟨ks, v, t, e, ek, rep_mono h d v r1, rept_mono h ds t r2⟩
theorem repk_mono (h : Same B B') : ∀ (ds : List (D × D)) (vs : List (Key × V)), RepK G B ds vs → RepK G B' ds vs
  | [], vs, r => by simpa only [RepK] using r
  | (k, d) :: ds, vs, r => by
    simp only [RepK] at r ⊢
    obtain ⟨ks, v, t, e, ek, r1, r2⟩ := r
    exact ⟨ks, v, t, e, ek, rep_mono h d v r1, repk_mono h ds t r2⟩
end
end

/-! ### lists of data and of values -/
section
variable {G : Gd} {B B' : Hp}
theorem reps_len : ∀ {ds : List D} {vs : List V}, Reps G B ds vs → vs.length = ds.length
  | [], _, r => by simp only [Reps] at r; subst r; rfl
  | d :: ds, _, r => by
    simp only [Reps] at r
    obtain ⟨v, t, e, _, r2⟩ := r
    subst e
    simp only [List.length_cons, reps_len r2]
theorem reps_get : ∀ {ds : List D} {vs : List V} {i : Nat} {d : D}, Reps G B ds vs → ds[i]? = some d → ∃ v, vs[i]? = some v ∧ Rep G B d v
  | [], _, _, _, _, h => by simp at h
  | d :: ds, _, 0, x, r, h => by
    simp only [Reps] at r
    obtain ⟨v, t, e, r1, _⟩ := r
    subst e
    simp at h
    subst h
    exact ⟨v, rfl, r1⟩
  | d :: ds, _, i + 1, x, r, h => by
    simp only [Reps] at r
    obtain ⟨v, t, e, _, r2⟩ := r
    subst e
    obtain ⟨w, hw, rw'⟩ := reps_get (i := i) r2 (by simpa using h)
    exact ⟨w, by simpa using hw, rw'⟩
theorem reps_get' : ∀ {ds : List D} {vs : List V} {i : Nat} {v : V}, Reps G B ds vs → vs[i]? = some v → ∃ d, ds[i]? = some d ∧ Rep G B d v
  | [], _, _, _, r, h => by simp only [Reps] at r; subst r; simp at h
  | d :: ds, _, 0, x, r, h => by
    simp only [Reps] at r
    obtain ⟨v, t, e, r1, _⟩ := r
    subst e
    simp at h
    subst h
    exact ⟨d, rfl, r1⟩
  | d :: ds, _, i + 1, x, r, h => by
    simp only [Reps] at r
    obtain ⟨v, t, e, _, r2⟩ := r
    subst e
    obtain ⟨w, hw, rw'⟩ := reps_get' (i := i) r2 (by simpa using h)
    exact ⟨w, by simpa using hw, rw'⟩
theorem reps_app : ∀ {ds es : List D} {vs ws : List V}, Reps G B ds vs → Reps G B es ws → Reps G B (ds ++ es) (vs ++ ws)
  | [], _, _, _, r, q => by simp only [Reps] at r; subst r; exact q
  | d :: ds, _, _, _, r, q => by
    simp only [Reps] at r
    obtain ⟨v, t, e, r1, r2⟩ := r
    subst e
    simp only [List.cons_append, Reps]
    exact ⟨v, _, rfl, r1, reps_app r2 q⟩
theorem reps_one {d : D} {v : V} (r : Rep G B d v) : Reps G B [d] [v] := by
  simp only [Reps]
  exact ⟨v, [], rfl, r, rfl⟩
theorem reps_nil : Reps G B [] [] := by simp only [Reps]
theorem reps_cons {d : D} {v : V} {ds : List D} {vs : List V} (r : Rep G B d v) (q : Reps G B ds vs) : Reps G B (d :: ds) (v :: vs) := by
  simp only [Reps]
  exact ⟨v, vs, rfl, r, q⟩
theorem reps_set : ∀ {ds : List D} {vs : List V} {i : Nat} {d : D} {v : V}, Reps G B ds vs → Rep G B d v → Reps G B (ds.set i d) (vs.set i v)
  | [], _, _, _, _, r, _ => by simp only [Reps] at r; subst r; simp [Reps]
  | d :: ds, _, 0, x, _, r, q => by
    simp only [Reps] at r
    obtain ⟨v, t, e, _, r2⟩ := r
    subst e
    exact reps_cons q r2
  | d :: ds, _, i + 1, x, _, r, q => by
    simp only [Reps] at r
    obtain ⟨v, t, e, r1, r2⟩ := r
    subst e
    exact reps_cons r1 (reps_set r2 q)
theorem reps_take : ∀ {ds : List D} {vs : List V} (n : Nat), Reps G B ds vs → Reps G B (ds.take n) (vs.take n)
  | [], _, n, r => by simp only [Reps] at r; subst r; simp [Reps]
  | d :: ds, _, 0, r => by simp [Reps]
  | d :: ds, _, n + 1, r => by
    simp only [Reps] at r
    obtain ⟨v, t, e, r1, r2⟩ := r
    subst e
    exact reps_cons r1 (reps_take n r2)
theorem reps_drop : ∀ {ds : List D} {vs : List V} (n : Nat), Reps G B ds vs → Reps G B (ds.drop n) (vs.drop n)
  | [], _, n, r => by simp only [Reps] at r; subst r; simp [Reps]
  | d :: ds, _, 0, r => r
  | d :: ds, _, n + 1, r => by
    simp only [Reps] at r
    obtain ⟨v, t, e, r1, r2⟩ := r
    subst e
    exact reps_drop n r2
theorem reps_rep {ds : List D} {vs : List V} (r : Reps G B ds vs) : ∀ n : Nat, Reps G B (List.replicate n ds).flatten (List.replicate n vs).flatten
  | 0 => by simp [Reps]
  | n + 1 => by
    simp only [List.replicate_succ, List.flatten_cons]
    exact reps_app r (reps_rep r n)
end

/-! ### the visible heap grows -/
/-- B: what is seen (shared, it stays for ever); H: all; new things are new in H -/
structure Ext (B H B' H' : Hp) : Prop where
  i : Same B H
  b : Same B B'
  i' : Same B' H'
  h : Same H H'
  n : ∀ a, H a ≠ none → B' a = B a
theorem Ext.refl {B H : Hp} (i : Same B H) : Ext B H B H := ⟨i, Same.refl _, i, Same.refl _, fun _ _ => rfl⟩
theorem Ext.trans {B H B1 H1 B2 H2 : Hp} (a : Ext B H B1 H1) (b : Ext B1 H1 B2 H2) : Ext B H B2 H2 :=
  ⟨a.i, a.b.trans b.b, b.i', a.h.trans b.h, fun x hx => by
    have h1 : H1 x ≠ none := by
      intro z
      cases e : H x with
      | none => exact hx e
      | some o =>
        rw [a.h x o e] at z
        cases z
    rw [b.n x h1, a.n x hx]⟩
theorem none_of_same {B H : Hp} {p : Addr} (i : Same B H) (hp : H p = none) : B p = none := by
  cases e : B p with
  | none => rfl
  | some o => rw [i p o e] at hp; cases hp
theorem Ext.new {B H : Hp} {p : Addr} {o : HO} (i : Same B H) (hp : H p = none) : Ext B H (upd B p o) (upd H p o) :=
  ⟨i, same_upd (none_of_same i hp), fun a u e => by
    by_cases z : a = p
    · subst z; rw [upd_same] at e ⊢; exact e
    · rw [upd_ne z] at e ⊢; exact i a u e, same_upd hp, fun a ha => by
    have z : a ≠ p := fun z => ha (by rw [z]; exact hp)
    rw [upd_ne z]⟩
/-- new, but not seen -/
theorem Ext.own {B H : Hp} {p : Addr} {o : HO} (i : Same B H) (hp : H p = none) : Ext B H B (upd H p o) :=
  ⟨i, Same.refl _, i.trans (same_upd hp), same_upd hp, fun _ _ => rfl⟩
/-- what was owned is shown -/
theorem Ext.show_ {B H B' H' : Hp} {p : Addr} {o : HO} (e : Ext B H B' H') (hp : H p = none) (h' : H' p = some o) (hb : B' p = none) : Ext B H (upd B' p o) H' :=
  ⟨e.i, e.b.trans (same_upd hb), fun a u q => by
    by_cases z : a = p
    · subst z; rw [upd_same] at q; rw [← q]; exact h'
    · rw [upd_ne z] at q; exact e.i' a u q, e.h, fun a ha => by
    have z : a ≠ p := fun z => ha (by rw [z]; exact hp)
    rw [upd_ne z]
    exact e.n a ha⟩
theorem Ext.fresh {B H B' H' : Hp} {p : Addr} (e : Ext B H B' H') (hp : H' p = none) : H p = none := e.h.free hp

/-! ### errors, the store, a statement's ways out -/
inductive EC where
  | DueError | NoFraction | NoPlan | NoTurns | NoClaimant | NoRow | NoBound | NoNumber | NoStep | NoRunning | NoSentence | NoBook | TooMany | NoText | NoDeed
  deriving DecidableEq
def EC.name : EC → Str
  | .DueError => "DueError" | .NoFraction => "NoFraction" | .NoPlan => "NoPlan" | .NoTurns => "NoTurns" | .NoClaimant => "NoClaimant" | .NoRow => "NoRow" | .NoBound => "NoBound" | .NoNumber => "NoNumber"
  | .NoStep => "NoStep" | .NoRunning => "NoRunning" | .NoSentence => "NoSentence" | .NoBook => "NoBook" | .TooMany => "TooMany" | .NoText => "NoText" | .NoDeed => "NoDeed"
inductive Er where
  | stuck
  | exc (c : EC) (at_ : Option Int)
abbrev M (α : Type) := Except Er α
inductive Sl where
  | sh (d : D)
  | ow (d : D)
abbrev Sto := List (Option Sl)
inductive Res where
  | nx (ρ : Sto) | rt (s : Sl) | bk (ρ : Sto) | ct (ρ : Sto) | er (e : Er) (ρ : Sto)

/-- an owned thing at p: it may be changed; what it holds is shared -/
def OwAt (G : Gd) (B H : Hp) (p : Addr) : D → Prop
  | .lst ds => ∃ xs, H p = some (.lst xs) ∧ Reps G B ds xs
  | .dic kvs => (∃ t, H p = some (.dT t) ∧ RepT G B kvs t) ∨ (∃ t, H p = some (.dK t) ∧ RepK G B kvs t)
  | _ => False
structure StOk (G : Gd) (B0 H0 B H : Hp) (σ : L2.St) (ρ : Sto) : Prop where
  ext : Ext B0 H0 B H
  len : σ.length = ρ.length
  sh : ∀ (i : Nat) (d : D), ρ[i]? = some (some (Sl.sh d)) → ∃ v, σ[i]? = some (some v) ∧ Rep G B d v
  ow : ∀ (i : Nat) (d : D), ρ[i]? = some (some (Sl.ow d)) → ∃ p, σ[i]? = some (some (V.ref p)) ∧ H0 p = none ∧ B p = none ∧ OwAt G B H p d
  ap : ∀ (i j : Nat) (d e : D) (p : Addr), ρ[i]? = some (some (Sl.ow d)) → ρ[j]? = some (some (Sl.ow e)) → σ[i]? = some (some (V.ref p)) → σ[j]? = some (some (V.ref p)) → i = j
theorem OwAt.get {G : Gd} {B H : Hp} {p : Addr} {d : D} (h : OwAt G B H p d) : ∃ o, H p = some o := by
  cases d with
  | lst ds => obtain ⟨xs, e, _⟩ := h; exact ⟨_, e⟩
  | dic kvs =>
    rcases h with ⟨t, e, _⟩ | ⟨t, e, _⟩
    · exact ⟨_, e⟩
    · exact ⟨_, e⟩
  | _ => exact h.elim
theorem OwAt.mono {G : Gd} {B H B' H' : Hp} {p : Addr} {d : D} (h : OwAt G B H p d) (b : Same B B') (e : ∀ o, H p = some o → H' p = some o) : OwAt G B' H' p d := by
  cases d with
  | lst ds => obtain ⟨xs, q, r⟩ := h; exact ⟨xs, e _ q, reps_mono b _ _ r⟩
  | dic kvs =>
    rcases h with ⟨t, q, r⟩ | ⟨t, q, r⟩
    · exact .inl ⟨t, e _ q, rept_mono b _ _ r⟩
    · exact .inr ⟨t, e _ q, repk_mono b _ _ r⟩
  | _ => exact h.elim
theorem StOk.mono {G : Gd} {B0 H0 B H B' H' : Hp} {σ : L2.St} {ρ : Sto} (S : StOk G B0 H0 B H σ ρ) (e : Ext B H B' H') : StOk G B0 H0 B' H' σ ρ :=
  ⟨S.ext.trans e, S.len, fun i d h => let ⟨v, h1, h2⟩ := S.sh i d h; ⟨v, h1, rep_mono e.b _ _ h2⟩, fun i d h => by
    obtain ⟨p, h1, h2, h3, h4⟩ := S.ow i d h
    obtain ⟨o, ho⟩ := h4.get
    exact ⟨p, h1, h2, by rw [e.n p (by rw [ho]; simp)]; exact h3, h4.mono e.b fun o q => e.h p o q⟩, S.ap⟩

/-- an exception's own dict -/
def XD (H : Hp) (dA : Option Addr) : Option Int → Prop
  | none => dA = none
  | some i => ∃ d, dA = some d ∧ H d = some (.xd [(("at" : Str), .int i)])
def ErOk (G : Gd) (W : WX) (B H : Hp) (σ : L2.St) : Er → Prop
  | .stuck => False
  | .exc c a => ∀ Ca dA B' H', G.mg c.name = some (.ref Ca) → Ext B H B' H' → XD H' dA a → W (.ref Ca) dA σ H'
theorem ErOk.mono {G : Gd} {W : WX} {B H B1 H1 : Hp} {σ : L2.St} {e : Er} (h : ErOk G W B H σ e) (x : Ext B H B1 H1) : ErOk G W B1 H1 σ e := by
  cases e with
  | stuck => exact h
  | exc c a => exact fun Ca dA B' H' m q => h Ca dA B' H' m (x.trans q)

/-! ### readings -/
def DPost (G : Gd) (W : WX) (B H : Hp) (σ : L2.St) (Q : VK) : M D → Prop
  | .ok d => ∀ v B' H', Ext B H B' H' → Rep G B' d v → Q v H'
  | .error e => ErOk G W B H σ e
def TD (G : Gd) (W : WX) (f : Sto → M D) : TE := fun σ H Q => ∃ B0 H0 B ρ, StOk G B0 H0 B H σ ρ ∧ DPost G W B H σ Q (f ρ)
/-- a new thing of one's own -/
def FPost (G : Gd) (W : WX) (B H : Hp) (σ : L2.St) (Q : VK) : M D → Prop
  | .ok d => ∀ p B' H', Ext B H B' H' → H p = none → B' p = none → OwAt G B' H' p d → Q (.ref p) H'
  | .error e => ErOk G W B H σ e
def TF (G : Gd) (W : WX) (f : Sto → M D) : TE := fun σ H Q => ∃ B0 H0 B ρ, StOk G B0 H0 B H σ ρ ∧ FPost G W B H σ Q (f ρ)
def BPost (G : Gd) (W : WX) (B H : Hp) (σ : L2.St) (Q : Bool → Hp → Prop) : M Bool → Prop
  | .ok b => ∀ B' H', Ext B H B' H' → Q b H'
  | .error e => ErOk G W B H σ e
def TB (G : Gd) (W : WX) (f : Sto → M Bool) : TT := fun σ H Q => ∃ B0 H0 B ρ, StOk G B0 H0 B H σ ρ ∧ BPost G W B H σ Q (f ρ)
def APost (G : Gd) (W : WX) (B H : Hp) (σ : L2.St) (Q : List V → Hp → Prop) : M (List D) → Prop
  | .ok ds => ∀ vs B' H', Ext B H B' H' → Reps G B' ds vs → Q vs H'
  | .error e => ErOk G W B H σ e
def TAD (G : Gd) (W : WX) (f : Sto → M (List D)) : TA := fun σ H Q => ∃ B0 H0 B ρ, StOk G B0 H0 B H σ ρ ∧ APost G W B H σ Q (f ρ)
def RtOk (G : Gd) (B0 H0 : Hp) (Q : VK) : Sl → Prop
  | .sh d => ∀ v B' H', Ext B0 H0 B' H' → Rep G B' d v → Q v H'
  | .ow d => ∀ p B' H', Ext B0 H0 B' H' → H0 p = none → B' p = none → OwAt G B' H' p d → Q (.ref p) H'
def SPost (G : Gd) (W : WX) (B0 H0 : Hp) (Dn : Ends) : Res → Prop
  | .nx ρ => ∀ σ B H, StOk G B0 H0 B H σ ρ → Dn.nx σ H
  | .rt s => RtOk G B0 H0 Dn.rt s
  | .bk ρ => ∀ σ B H, StOk G B0 H0 B H σ ρ → Dn.bk σ H
  | .ct ρ => ∀ σ B H, StOk G B0 H0 B H σ ρ → Dn.ct σ H
  | .er e ρ => ∀ σ B H, StOk G B0 H0 B H σ ρ → ErOk G W B H σ e
def TSD (G : Gd) (W : WX) (g : Sto → Res) : TS := fun Dn σ H => ∃ B0 H0 B ρ, StOk G B0 H0 B H σ ρ ∧ SPost G W B0 H0 Dn (g ρ)
end DL

namespace DL
open PySem PySem.Spec PyProof.Rows L2

abbrev gd (X : Cx) : Gd := ⟨X.K, X.mg⟩
def opt {α : Type} : Option α → M α
  | some a => .ok a
  | none => .error .stuck
def noex {α : Type} : M α → M α
  | .ok a => .ok a
  | .error _ => .error .stuck

/-! ### a value that may be read: shared, or a thing of one's own -/
def Rdb (G : Gd) (B H : Hp) (d : D) (v : V) : Prop := Rep G B d v ∨ ∃ p, v = .ref p ∧ B p = none ∧ OwAt G B H p d
section
variable {G : Gd} {B H B' H' : Hp} {d : D} {v : V} {ds : List D}
theorem Rdb.mono (r : Rdb G B H d v) (e : Ext B H B' H') : Rdb G B' H' d v := by
  rcases r with r | ⟨p, h1, h2, h3⟩
  · exact .inl (rep_mono e.b _ _ r)
  · obtain ⟨o, ho⟩ := h3.get
    exact .inr ⟨p, h1, by rw [e.n p (by rw [ho]; simp)]; exact h2, h3.mono e.b fun o q => e.h p o q⟩
theorem rdb_int {i : Int} (r : Rdb G B H (.int i) v) : v = .int i := by
  rcases r with r | ⟨p, _, _, h3⟩
  · simpa only [Rep] using r
  · exact h3.elim
theorem rdb_bl {i : Bool} (r : Rdb G B H (.bl i) v) : v = .bl i := by
  rcases r with r | ⟨p, _, _, h3⟩
  · simpa only [Rep] using r
  · exact h3.elim
theorem rdb_str {i : Str} (r : Rdb G B H (.str i) v) : v = .str i := by
  rcases r with r | ⟨p, _, _, h3⟩
  · simpa only [Rep] using r
  · exact h3.elim
theorem rdb_non (r : Rdb G B H .non v) : v = .non := by
  rcases r with r | ⟨p, _, _, h3⟩
  · simpa only [Rep] using r
  · exact h3.elim
theorem rdb_lst (s : Same B H) (r : Rdb G B H (.lst ds) v) : ∃ a xs, v = .ref a ∧ H a = some (.lst xs) ∧ Reps G B ds xs := by
  rcases r with r | ⟨p, h1, _, h3⟩
  · simp only [Rep] at r
    obtain ⟨a, xs, e, q, rs⟩ := r
    exact ⟨a, xs, e, s _ _ q, rs⟩
  · obtain ⟨xs, q, rs⟩ := h3
    exact ⟨p, xs, h1, q, rs⟩
theorem rdb_fls (s : Same B H) (r : Rdb G B H (.fls ds) v) : ∃ a xs, v = .ref a ∧ SqL G.K H a xs ∧ Reps G B ds xs := by
  rcases r with r | ⟨p, h1, _, h3⟩
  · simp only [Rep] at r
    obtain ⟨a, xs, e, q, rs⟩ := r
    exact ⟨a, xs, e, sql_mono s q, rs⟩
  · exact h3.elim
theorem rdb_tup (s : Same B H) (r : Rdb G B H (.tup ds) v) : ∃ a xs, v = .ref a ∧ H a = some (.tup xs) ∧ B a = some (.tup xs) ∧ Reps G B ds xs := by
  rcases r with r | ⟨p, h1, _, h3⟩
  · simp only [Rep] at r
    obtain ⟨a, xs, e, q, rs⟩ := r
    exact ⟨a, xs, e, s _ _ q, q, rs⟩
  · exact h3.elim
theorem rdb_ctp (s : Same B H) (r : Rdb G B H (.ctp ds) v) : ∃ a xs, v = .ref a ∧ SqT G.K H a xs ∧ Reps G B ds xs := by
  rcases r with r | ⟨p, h1, _, h3⟩
  · simp only [Rep] at r
    obtain ⟨a, xs, e, q, rs⟩ := r
    exact ⟨a, xs, e, sqt_mono s q, rs⟩
  · exact h3.elim
/-- the items of a list or tuple -/
def D.items : D → Option (List D)
  | .lst ds => some ds
  | .fls ds => some ds
  | .tup ds => some ds
  | .ctp ds => some ds
  | _ => none
theorem rdb_seq (s : Same B H) (r : Rdb G B H d v) (hi : d.items = some ds) : ∃ a xs, v = .ref a ∧ (SqL G.K H a xs ∨ SqT G.K H a xs) ∧ Reps G B ds xs := by
  cases d with
  | lst es => cases hi; obtain ⟨a, xs, e, q, rs⟩ := rdb_lst s r; exact ⟨a, xs, e, .inl (.of q), rs⟩
  | fls es => cases hi; obtain ⟨a, xs, e, q, rs⟩ := rdb_fls s r; exact ⟨a, xs, e, .inl q, rs⟩
  | tup es => cases hi; obtain ⟨a, xs, e, q, _, rs⟩ := rdb_tup s r; exact ⟨a, xs, e, .inr (.of q), rs⟩
  | ctp es => cases hi; obtain ⟨a, xs, e, q, rs⟩ := rdb_ctp s r; exact ⟨a, xs, e, .inr q, rs⟩
  | _ => cases hi
theorem rep_int {i : Int} : Rep G B (.int i) (.int i) := by simp only [Rep]
theorem rep_bl {i : Bool} : Rep G B (.bl i) (.bl i) := by simp only [Rep]
theorem rep_str {i : Str} : Rep G B (.str i) (.str i) := by simp only [Rep]
theorem rep_non : Rep G B .non .non := by simp only [Rep]
theorem rep_lst {a : Addr} {xs : List V} (h : B a = some (.lst xs)) (r : Reps G B ds xs) : Rep G B (.lst ds) (.ref a) := by
  simp only [Rep]
  exact ⟨a, xs, rfl, h, r⟩
theorem rep_tup {a : Addr} {xs : List V} (h : B a = some (.tup xs)) (r : Reps G B ds xs) : Rep G B (.tup ds) (.ref a) := by
  simp only [Rep]
  exact ⟨a, xs, rfl, h, r⟩
end
def Rdbs (G : Gd) (B H : Hp) : List D → List V → Prop
  | [], vs => vs = []
  | d :: ds, vs => ∃ v r, vs = v :: r ∧ Rdb G B H d v ∧ Rdbs G B H ds r
theorem Rdbs.mono {G : Gd} {B H B' H' : Hp} (e : Ext B H B' H') : ∀ {ds : List D} {vs : List V}, Rdbs G B H ds vs → Rdbs G B' H' ds vs
  | [], _, r => r
  | _ :: _, _, ⟨v, t, h, r, q⟩ => ⟨v, t, h, r.mono e, Rdbs.mono e q⟩
theorem Rdbs.of_reps {G : Gd} {B H : Hp} : ∀ {ds : List D} {vs : List V}, Reps G B ds vs → Rdbs G B H ds vs
  | [], _, r => by simp only [Reps] at r; exact r
  | _ :: _, _, r => by
    simp only [Reps] at r
    obtain ⟨v, t, h, r1, q⟩ := r
    exact ⟨v, t, h, .inl r1, Rdbs.of_reps q⟩

/-! ### readings of what is read -/
def RPost (G : Gd) (W : WX) (B H : Hp) (σ : L2.St) (Q : VK) : M D → Prop
  | .ok d => ∀ v B' H', Ext B H B' H' → Rdb G B' H' d v → Q v H'
  | .error e => ErOk G W B H σ e
def TR (G : Gd) (W : WX) (f : Sto → M D) : TE := fun σ H Q => ∃ B0 H0 B ρ, StOk G B0 H0 B H σ ρ ∧ RPost G W B H σ Q (f ρ)
def ARPost (G : Gd) (W : WX) (B H : Hp) (σ : L2.St) (Q : List V → Hp → Prop) : M (List D) → Prop
  | .ok ds => ∀ vs B' H', Ext B H B' H' → Rdbs G B' H' ds vs → Q vs H'
  | .error e => ErOk G W B H σ e
def TAR (G : Gd) (W : WX) (f : Sto → M (List D)) : TA := fun σ H Q => ∃ B0 H0 B ρ, StOk G B0 H0 B H σ ρ ∧ ARPost G W B H σ Q (f ρ)
theorem _root_.L2.PE.wk {X : Cx} {e : Expr} {t t' : TE} (h : PE X e t) (k : ∀ σ H Q, t' σ H Q → t σ H Q) : PE X e t' := ⟨fun pins s σ H Q I q => h.run pins s σ H Q I (k σ H Q q)⟩
theorem _root_.L2.PT.wk {X : Cx} {e : Expr} {t t' : TT} (h : PT X e t) (k : ∀ σ H Q, t' σ H Q → t σ H Q) : PT X e t' := ⟨fun pins s σ H Q I q => h.run pins s σ H Q I (k σ H Q q)⟩
theorem _root_.L2.PA.wk {X : Cx} {e : List Expr} {t t' : TA} (h : PA X e t) (k : ∀ σ H Q, t' σ H Q → t σ H Q) : PA X e t' := ⟨fun pos pins s σ H Q I q => h.run pos pins s σ H Q I (k σ H Q q)⟩
theorem _root_.L2.PS.wk {X : Cx} {e : Stmt} {t t' : TS} (h : PS X e t) (k : ∀ D σ H, t' D σ H → t D σ H) : PS X e t' := ⟨fun pins s σ H D I q => h.run pins s σ H D I (k D σ H q)⟩
theorem _root_.L2.PSs.wk {X : Cx} {e : List Stmt} {t t' : TS} (h : PSs X e t) (k : ∀ D σ H, t' D σ H → t D σ H) : PSs X e t' := ⟨fun pins s σ H D I q => h.run pins s σ H D I (k D σ H q)⟩
theorem _root_.L2.PG.wk {X : Cx} {e : Expr} {t t' : TG} (h : PG X e t) (k : ∀ v σ H Q, t' v σ H Q → t v σ H Q) : PG X e t' := ⟨fun pins s σ H v u Q I r q => h.run pins s σ H v u Q I r (k v σ H Q q)⟩
theorem _root_.L2.PGs.wk {X : Cx} {e : List Expr} {t t' : TGs} (h : PGs X e t) (k : ∀ v σ H Q, t' v σ H Q → t v σ H Q) : PGs X e t' := ⟨fun pins s σ H v u Q I r q => h.run pins s σ H v u Q I r (k v σ H Q q)⟩
theorem _root_.L2.PI.wk {X : Cx} {tg e : Expr} {t t' : TI} (h : PI X tg e t) (k : ∀ σ H Q, t' σ H Q → t σ H Q) : PI X tg e t' := ⟨fun pins s σ H Q I q => h.run pins s σ H Q I (k σ H Q q)⟩

section
variable {G : Gd} {W : WX} {B0 H0 B H : Hp} {σ : L2.St} {ρ : Sto}
theorem tr_i {f : Sto → M D} {Q : VK} (S : StOk G B0 H0 B H σ ρ) (hE : ∀ e, f ρ = .error e → ErOk G W B H σ e) (k : ∀ v H1 B1 d, Ext B H B1 H1 → Rdb G B1 H1 d v → f ρ = .ok d → Q v H1) : TR G W f σ H Q := by
  refine ⟨B0, H0, B, ρ, S, ?_⟩
  cases hf : f ρ with
  | ok d => exact fun v B' H' x r => k v H' B' d x r hf
  | error e => exact hE e hf
theorem td_i {f : Sto → M D} {Q : VK} (S : StOk G B0 H0 B H σ ρ) (hE : ∀ e, f ρ = .error e → ErOk G W B H σ e) (k : ∀ v H1 B1 d, Ext B H B1 H1 → Rep G B1 d v → f ρ = .ok d → Q v H1) : TD G W f σ H Q := by
  refine ⟨B0, H0, B, ρ, S, ?_⟩
  cases hf : f ρ with
  | ok d => exact fun v B' H' x r => k v H' B' d x r hf
  | error e => exact hE e hf
theorem tf_i {f : Sto → M D} {Q : VK} (S : StOk G B0 H0 B H σ ρ) (hE : ∀ e, f ρ = .error e → ErOk G W B H σ e) (k : ∀ p H1 B1 d, Ext B H B1 H1 → H p = none → B1 p = none → OwAt G B1 H1 p d → f ρ = .ok d → Q (.ref p) H1) : TF G W f σ H Q := by
  refine ⟨B0, H0, B, ρ, S, ?_⟩
  cases hf : f ρ with
  | ok d => exact fun p B' H' x h1 h2 h3 => k p H' B' d x h1 h2 h3 hf
  | error e => exact hE e hf
theorem tb_i {f : Sto → M Bool} {Q : Bool → Hp → Prop} (S : StOk G B0 H0 B H σ ρ) (hE : ∀ e, f ρ = .error e → ErOk G W B H σ e) (k : ∀ b H1 B1, Ext B H B1 H1 → f ρ = .ok b → Q b H1) : TB G W f σ H Q := by
  refine ⟨B0, H0, B, ρ, S, ?_⟩
  cases hf : f ρ with
  | ok d => exact fun B' H' x => k d H' B' x hf
  | error e => exact hE e hf
theorem tar_i {f : Sto → M (List D)} {Q : List V → Hp → Prop} (S : StOk G B0 H0 B H σ ρ) (hE : ∀ e, f ρ = .error e → ErOk G W B H σ e) (k : ∀ vs H1 B1 ds, Ext B H B1 H1 → Rdbs G B1 H1 ds vs → f ρ = .ok ds → Q vs H1) : TAR G W f σ H Q := by
  refine ⟨B0, H0, B, ρ, S, ?_⟩
  cases hf : f ρ with
  | ok d => exact fun v B' H' x r => k v H' B' d x r hf
  | error e => exact hE e hf
theorem tad_i {f : Sto → M (List D)} {Q : List V → Hp → Prop} (S : StOk G B0 H0 B H σ ρ) (hE : ∀ e, f ρ = .error e → ErOk G W B H σ e) (k : ∀ vs H1 B1 ds, Ext B H B1 H1 → Reps G B1 ds vs → f ρ = .ok ds → Q vs H1) : TAD G W f σ H Q := by
  refine ⟨B0, H0, B, ρ, S, ?_⟩
  cases hf : f ρ with
  | ok d => exact fun v B' H' x r => k v H' B' d x r hf
  | error e => exact hE e hf
theorem freeze_rep {p : Addr} {d : D} {B' H' : Hp} (x : Ext B H B' H') (h1 : H p = none) (h2 : B' p = none) (h3 : OwAt G B' H' p d) : ∃ B'', Ext B H B'' H' ∧ Rep G B'' d (.ref p) := by
  cases d with
  | lst ds =>
    obtain ⟨xs, q, r⟩ := h3
    refine ⟨upd B' p (.lst xs), x.show_ h1 q h2, rep_lst upd_same (reps_mono (same_upd h2) _ _ r)⟩
  | dic kvs =>
    rcases h3 with ⟨t, q, r⟩ | ⟨t, q, r⟩
    · refine ⟨upd B' p (.dT t), x.show_ h1 q h2, ?_⟩
      simp only [Rep]
      exact ⟨p, rfl, .inl ⟨t, .inl upd_same, rept_mono (same_upd h2) _ _ r⟩⟩
    · refine ⟨upd B' p (.dK t), x.show_ h1 q h2, ?_⟩
      simp only [Rep]
      exact ⟨p, rfl, .inr ⟨t, .inl upd_same, repk_mono (same_upd h2) _ _ r⟩⟩
  | _ => exact h3.elim
end

section
variable {X : Cx} {W : WX} {e : Expr} {f : Sto → M D}
theorem rd (h : PE X e (TD (gd X) W f)) : PE X e (TR (gd X) W f) := h.wk fun σ H Q ⟨B0, H0, B, ρ, S, q⟩ => td_i S (fun er he => by rw [he] at q; exact q) fun v H1 B1 d x r hf => by rw [hf] at q; exact q v B1 H1 x (.inl r)
theorem fz (h : PE X e (TF (gd X) W f)) : PE X e (TD (gd X) W f) := h.wk fun σ H Q ⟨B0, H0, B, ρ, S, q⟩ => tf_i S (fun er he => by rw [he] at q; exact q) fun p H1 B1 d x h1 h2 h3 hf => by
  rw [hf] at q
  obtain ⟨B2, x2, r⟩ := freeze_rep x h1 h2 h3
  exact q _ B2 H1 x2 r
end

/-! ### names, constants -/
def eVar (i : Nat) : Sto → M D := fun ρ => match ρ[i]? with
  | some (some (.sh d)) => .ok d
  | _ => .error .stuck
def eRd (i : Nat) : Sto → M D := fun ρ => match ρ[i]? with
  | some (some (.sh d)) => .ok d
  | some (some (.ow d)) => .ok d
  | _ => .error .stuck
def eC (d : D) : Sto → M D := fun _ => .ok d
section
variable {X : Cx} {W : WX} {pos : Pos}
theorem de_var (i : Nat) {x : Str} (hN : X.N[i]? = some x := by rfl) (hv : Vis X.env.scope x := by first | exact Or.inl rfl | exact Or.inr (Or.inl rfl) | exact Or.inr (Or.inr rfl)) (hd : (x == ("__debug__" : Str)) = false := by decide)
    (hcd : (x == ("__classdict__" : Str)) = false := by decide) : PE X (.Name x pos) (TD (gd X) W (eVar i)) := (pe_var hN hv hd hcd).wk fun σ H Q ⟨B0, H0, B, ρ, S, q⟩ => by
  unfold eVar at q
  cases h : ρ[i]? with
  | none => rw [h] at q; exact q.elim
  | some o =>
    cases o with
    | none => rw [h] at q; exact q.elim
    | some sl =>
      cases sl with
      | sh d =>
        rw [h] at q
        obtain ⟨v, h1, h2⟩ := S.sh i d h
        exact ⟨v, h1, q v B H (Ext.refl S.ext.i') h2⟩
      | ow d => rw [h] at q; exact q.elim
theorem dr_var (i : Nat) {x : Str} (hN : X.N[i]? = some x := by rfl) (hv : Vis X.env.scope x := by first | exact Or.inl rfl | exact Or.inr (Or.inl rfl) | exact Or.inr (Or.inr rfl)) (hd : (x == ("__debug__" : Str)) = false := by decide)
    (hcd : (x == ("__classdict__" : Str)) = false := by decide) : PE X (.Name x pos) (TR (gd X) W (eRd i)) := (pe_var hN hv hd hcd).wk fun σ H Q ⟨B0, H0, B, ρ, S, q⟩ => by
  unfold eRd at q
  cases h : ρ[i]? with
  | none => rw [h] at q; exact q.elim
  | some o =>
    cases o with
    | none => rw [h] at q; exact q.elim
    | some sl =>
      cases sl with
      | sh d =>
        rw [h] at q
        obtain ⟨v, h1, h2⟩ := S.sh i d h
        exact ⟨v, h1, q v B H (Ext.refl S.ext.i') (.inl h2)⟩
      | ow d =>
        rw [h] at q
        obtain ⟨p, h1, h2, h3, h4⟩ := S.ow i d h
        exact ⟨_, h1, q _ B H (Ext.refl S.ext.i') (.inr ⟨p, rfl, h3, h4⟩)⟩
theorem de_int {i : Int} {j} : PE X (.Constant (.int i) j pos) (TD (gd X) W (eC (.int i))) := pe_int.wk fun σ H Q ⟨B0, H0, B, ρ, S, q⟩ => q _ B H (Ext.refl S.ext.i') rep_int
theorem de_bl {i : Bool} {j} : PE X (.Constant (.bool i) j pos) (TD (gd X) W (eC (.bl i))) := pe_bl.wk fun σ H Q ⟨B0, H0, B, ρ, S, q⟩ => q _ B H (Ext.refl S.ext.i') rep_bl
theorem de_non {j} : PE X (.Constant .none j pos) (TD (gd X) W (eC .non)) := pe_non.wk fun σ H Q ⟨B0, H0, B, ρ, S, q⟩ => q _ B H (Ext.refl S.ext.i') rep_non
theorem de_str {i : Str} {j} : PE X (.Constant (.str i) j pos) (TD (gd X) W (eC (.str i))) := pe_str.wk fun σ H Q ⟨B0, H0, B, ρ, S, q⟩ => q _ B H (Ext.refl S.ext.i') rep_str
/-- a module's constant that is an int, a text -/
theorem de_globI {x : Str} {i : Int} {t : Tok} (hg : Gl X x) (hm : X.mg x = some (.int i t)) (hd : (x == ("__debug__" : Str)) = false := by decide) : PE X (.Name x pos) (TD (gd X) W (eC (.int i))) := (pe_glob (v := .int i) hg hm ⟨t, rfl⟩ hd).wk fun σ H Q ⟨B0, H0, B, ρ, S, q⟩ => q _ B H (Ext.refl S.ext.i') rep_int
theorem de_globS {x : Str} {i : Str} {t : Tok} (hg : Gl X x) (hm : X.mg x = some (.str i t)) (hd : (x == ("__debug__" : Str)) = false := by decide) : PE X (.Name x pos) (TD (gd X) W (eC (.str i))) := (pe_glob (v := .str i) hg hm ⟨t, rfl⟩ hd).wk fun σ H Q ⟨B0, H0, B, ρ, S, q⟩ => q _ B H (Ext.refl S.ext.i') rep_str
/-- .. that is a tuple of flat things, written -/
theorem de_globT {x : Str} {a : Addr} {xs : List V} {ds : List D} (hg : Gl X x) (hm : X.mg x = some (.ref a)) (hT : ∀ H, SqT X.K H a xs) (hr : ∀ B, Reps (gd X) B ds xs) (hd : (x == ("__debug__" : Str)) = false := by decide) : PE X (.Name x pos) (TD (gd X) W (eC (.ctp ds))) := (pe_glob (v := .ref a) hg hm rfl hd).wk fun σ H Q ⟨B0, H0, B, ρ, S, q⟩ => q _ B H (Ext.refl S.ext.i') (by simp only [Rep]; exact ⟨a, xs, rfl, hT B, hr B⟩)
end
end DL

namespace DL
open PySem PySem.Spec PyProof.Rows L2

/-! ### two values -/
def OpI (G : Gd) (r : R2) (g : D → D → Option D) : Prop := ∀ B H d e x y z Q, Same B H → Rdb G B H d x → Rdb G B H e y → g d e = some z → (∀ v B' H', Ext B H B' H' → Rep G B' z v → Q v H') → r x y H Q
def eBin (g : D → D → Option D) (f1 f2 : Sto → M D) : Sto → M D := fun ρ => (f1 ρ).bind fun a => (f2 ρ).bind fun b => opt (g a b)
theorem bin_tr {G : Gd} {W : WX} {r : R2} {g : D → D → Option D} {f1 f2 : Sto → M D} (hg : OpI G r g) : ∀ σ H Q, TD G W (eBin g f1 f2) σ H Q → tOp r (TR G W f1) (TR G W f2) σ H Q := fun σ H Q ⟨B0, H0, B, ρ, S, q⟩ => by
  refine tr_i S (fun er he => ?_) fun x H1 B1 d x1 r1 e1 => tr_i (S.mono x1) (fun er he => ?_) fun y H2 B2 e x2 r2 e2 => ?_
  · have z : eBin g f1 f2 ρ = .error er := by unfold eBin; rw [he]; rfl
    rw [z] at q; exact q
  · have z : eBin g f1 f2 ρ = .error er := by unfold eBin; rw [e1, he]; rfl
    rw [z] at q; exact ErOk.mono q x1
  · have z : eBin g f1 f2 ρ = opt (g d e) := by unfold eBin; rw [e1, e2]; rfl
    rw [z] at q
    cases hz : g d e with
    | none => rw [hz] at q; exact q.elim
    | some w =>
      rw [hz] at q
      exact hg B2 H2 d e x y w Q x2.i' (r1.mono x2) r2 hz fun v B' H' x3 r3 => q v B' H' ((x1.trans x2).trans x3) r3
section
variable {X : Cx} {W : WX} {a b c : Expr} {f1 f2 f3 : Sto → M D} {pos : Pos}
theorem de_op {op : Operator} {r : R2} {g : D → D → Option D} (hg : OpI (gd X) r g) (ho : OpR X (binaryOp op) r) (ha : PE X a (TR (gd X) W f1)) (hb : PE X b (TR (gd X) W f2)) : PE X (.BinOp a op b pos) (TD (gd X) W (eBin g f1 f2)) :=
  (pe_op ho ha hb).wk (bin_tr hg)
theorem de_cmp {op : CmpOp} {r : R2} {g : D → D → Option D} (hg : OpI (gd X) r g) (ho : OpR X (compareOp op) r) (ha : PE X a (TR (gd X) W f1)) (hb : PE X b (TR (gd X) W f2)) (hm : behindInMarks op b = false := by first | exact nomark _ | rfl) : PE X (.Compare a [op] [b] pos) (TD (gd X) W (eBin g f1 f2)) :=
  (pe_cmpR ho ha hb hm).wk (bin_tr hg)
/-! ### tests -/
def asB : M D → M Bool
  | .ok (.bl b) => .ok b
  | .ok _ => .error .stuck
  | .error e => .error e
def bV (f : Sto → M D) : Sto → M Bool := fun ρ => asB (f ρ)
theorem td_of_b {G : Gd} {f : Sto → M D} {σ : L2.St} {H : Hp} {Q : Bool → Hp → Prop} (h : TB G W (bV f) σ H Q) : TD G W f σ H (fun x H' => ∃ k, x = .bl k ∧ Q k H') := by
  obtain ⟨B0, H0, B, ρ, S, q⟩ := h
  unfold bV at q
  refine td_i S (fun er he => by rw [he] at q; exact q) fun v H1 B1 d x r e => ?_
  rw [e] at q
  cases d with
  | bl k =>
    simp only [Rep] at r
    exact ⟨k, r, q B1 H1 x⟩
  | _ => exact q.elim
theorem db_cmp {op : CmpOp} {r : R2} {g : D → D → Option D} (hg : OpI (gd X) r g) (ho : OpR X (compareOp op) r) (ha : PE X a (TR (gd X) W f1)) (hb : PE X b (TR (gd X) W f2)) (hm : behindInMarks op b = false := by first | exact nomark _ | rfl) : PT X (.Compare a [op] [b] pos) (TB (gd X) W (bV (eBin g f1 f2))) :=
  (pt_cmpR ho ha hb hm).wk fun σ H Q h => bin_tr hg σ H _ (td_of_b h)
/-- an expression whose value is a bool -/
theorem db_val {e : Expr} {f : Sto → M D} (h : PE X e (TD (gd X) W f)) (he : ∀ whole, isTrue e X.env whole = (do let v ← whole; standAt e.pos; holding [v] (truthy v)) := by intro _; rfl) : PT X e (TB (gd X) W (bV f)) :=
  (pt_val h he).wk fun σ H Q q => td_of_b q
def bAnd (f g : Sto → M Bool) : Sto → M Bool := fun ρ => (f ρ).bind fun k => if k then g ρ else .ok false
def bOr (f g : Sto → M Bool) : Sto → M Bool := fun ρ => (f ρ).bind fun k => if k then .ok true else g ρ
def bNot (f : Sto → M Bool) : Sto → M Bool := fun ρ => (f ρ).bind fun k => .ok (!k)
variable {rest : List Expr} {g1 g2 : Sto → M Bool}
theorem db_not (h : PT X a (TB (gd X) W g1)) : PT X (.UnaryOp .Not a pos) (TB (gd X) W (bNot g1)) := (pt_not h).wk fun σ H Q ⟨B0, H0, B, ρ, S, q⟩ => by
  unfold bNot at q
  refine tb_i S (fun er he => by rw [he] at q; exact q) fun b H1 B1 x e => ?_
  rw [e] at q
  exact q B1 H1 x
theorem wb_and (h1 : PT X a (TB (gd X) W g1)) (h2 : PW X (.BoolOp .And (b :: rest) pos) (TB (gd X) W g2)) : PW X (.BoolOp .And (a :: b :: rest) pos) (TB (gd X) W (bAnd g1 g2)) := ⟨fun wh pins s σ H Q I h => (pw_and h1 h2).run wh pins s σ H Q I (by
  obtain ⟨B0, H0, B, ρ, S, q⟩ := h
  unfold bAnd at q
  refine tb_i S (fun er he => by rw [he] at q; exact q) fun k H1 B1 x e => ?_
  rw [e] at q
  cases k with
  | true =>
    show TB (gd X) W g2 σ H1 Q
    refine tb_i (S.mono x) (fun er he => ?_) fun k2 H2 B2 x2 e2 => ?_
    · have q' : BPost (gd X) W B H σ Q (g2 ρ) := q
      rw [he] at q'; exact ErOk.mono q' x
    · have q' : BPost (gd X) W B H σ Q (g2 ρ) := q
      rw [e2] at q'; exact q' B2 H2 (x.trans x2)
  | false => exact q B1 H1 x)⟩
theorem wb_or (h1 : PT X a (TB (gd X) W g1)) (h2 : PW X (.BoolOp .Or (b :: rest) pos) (TB (gd X) W g2)) : PW X (.BoolOp .Or (a :: b :: rest) pos) (TB (gd X) W (bOr g1 g2)) := ⟨fun wh pins s σ H Q I h => (pw_or h1 h2).run wh pins s σ H Q I (by
  obtain ⟨B0, H0, B, ρ, S, q⟩ := h
  unfold bOr at q
  refine tb_i S (fun er he => by rw [he] at q; exact q) fun k H1 B1 x e => ?_
  rw [e] at q
  cases k with
  | false =>
    show TB (gd X) W g2 σ H1 Q
    refine tb_i (S.mono x) (fun er he => ?_) fun k2 H2 B2 x2 e2 => ?_
    · have q' : BPost (gd X) W B H σ Q (g2 ρ) := q
      rw [he] at q'; exact ErOk.mono q' x
    · have q' : BPost (gd X) W B H σ Q (g2 ρ) := q
      rw [e2] at q'; exact q' B2 H2 (x.trans x2)
  | true => exact q B1 H1 x)⟩
theorem wb_and1 (h1 : PT X a (TB (gd X) W g1)) : PW X (.BoolOp .And [a] pos) (TB (gd X) W g1) := pw_and1 h1
theorem wb_or1 (h1 : PT X a (TB (gd X) W g1)) : PW X (.BoolOp .Or [a] pos) (TB (gd X) W g1) := pw_or1 h1
/-! ### and, or, not as values -/
def eAnd (f g : Sto → M D) : Sto → M D := fun ρ => (asB (f ρ)).bind fun k => if k then g ρ else .ok (.bl false)
def eOr (f g : Sto → M D) : Sto → M D := fun ρ => (asB (f ρ)).bind fun k => if k then .ok (.bl true) else g ρ
def eNot (f : Sto → M D) : Sto → M D := fun ρ => (asB (f ρ)).bind fun k => .ok (.bl (!k))
theorem rep_b {G : Gd} {B : Hp} {d : D} {v : V} (r : Rep G B d v) {k : Bool} (e : asB (.ok d) = .ok k) : v = .bl k := by
  cases d with
  | bl b =>
    simp only [Rep] at r
    have e' : b = k := by injection e
    rw [← e']; exact r
  | _ => exact absurd e (by intro z; cases z)
theorem asB_cases (f : M D) : (∃ e, f = .error e) ∨ (∃ d, f = .ok d ∧ asB f = .error .stuck) ∨ ∃ k, f = .ok (.bl k) := by
  cases f with
  | error e => exact .inl ⟨e, rfl⟩
  | ok d => cases d with
    | bl k => exact .inr (.inr ⟨k, rfl⟩)
    | _ => exact .inr (.inl ⟨_, rfl, rfl⟩)
theorem de_and (h1 : PE X a (TD (gd X) W f1)) (h2 : PE X (.BoolOp .And (b :: rest) pos) (TD (gd X) W f2)) : PE X (.BoolOp .And (a :: b :: rest) pos) (TD (gd X) W (eAnd f1 f2)) := (pe_and h1 h2).wk fun σ H Q ⟨B0, H0, B, ρ, S, q⟩ => by
  unfold eAnd at q
  rcases asB_cases (f1 ρ) with ⟨er, e⟩ | ⟨d, e, e'⟩ | ⟨k, e⟩
  · rw [e] at q
    exact td_i S (fun er' he => by rw [e] at he; cases he; exact q) fun v H1 B1 d x r he => by rw [e] at he; cases he
  · rw [e'] at q; exact q.elim
  · refine td_i S (fun er' he => by rw [e] at he; cases he) fun v H1 B1 d x r he => ?_
    rw [e] at he; cases he
    rw [e] at q
    simp only [Rep] at r
    refine ⟨k, r, ?_⟩
    cases k with
    | true =>
      show TD (gd X) W f2 σ H1 Q
      have q' : DPost (gd X) W B H σ Q (f2 ρ) := q
      refine td_i (S.mono x) (fun er he => by rw [he] at q'; exact ErOk.mono q' x) fun v2 H2 B2 d2 x2 r2 e2 => ?_
      rw [e2] at q'; exact q' v2 B2 H2 (x.trans x2) r2
    | false => exact q (.bl false) B1 H1 x rep_bl
theorem de_or (h1 : PE X a (TD (gd X) W f1)) (h2 : PE X (.BoolOp .Or (b :: rest) pos) (TD (gd X) W f2)) : PE X (.BoolOp .Or (a :: b :: rest) pos) (TD (gd X) W (eOr f1 f2)) := (pe_or h1 h2).wk fun σ H Q ⟨B0, H0, B, ρ, S, q⟩ => by
  unfold eOr at q
  rcases asB_cases (f1 ρ) with ⟨er, e⟩ | ⟨d, e, e'⟩ | ⟨k, e⟩
  · rw [e] at q
    exact td_i S (fun er' he => by rw [e] at he; cases he; exact q) fun v H1 B1 d x r he => by rw [e] at he; cases he
  · rw [e'] at q; exact q.elim
  · refine td_i S (fun er' he => by rw [e] at he; cases he) fun v H1 B1 d x r he => ?_
    rw [e] at he; cases he
    rw [e] at q
    simp only [Rep] at r
    refine ⟨k, r, ?_⟩
    cases k with
    | false =>
      show TD (gd X) W f2 σ H1 Q
      have q' : DPost (gd X) W B H σ Q (f2 ρ) := q
      refine td_i (S.mono x) (fun er he => by rw [he] at q'; exact ErOk.mono q' x) fun v2 H2 B2 d2 x2 r2 e2 => ?_
      rw [e2] at q'; exact q' v2 B2 H2 (x.trans x2) r2
    | true => exact q (.bl true) B1 H1 x rep_bl
theorem de_one {op} (h : PE X a (TD (gd X) W f1)) : PE X (.BoolOp op [a] pos) (TD (gd X) W f1) := pe_one h
theorem de_not (h : PE X a (TD (gd X) W f1)) : PE X (.UnaryOp .Not a pos) (TD (gd X) W (eNot f1)) := (pe_not h).wk fun σ H Q ⟨B0, H0, B, ρ, S, q⟩ => by
  unfold eNot at q
  rcases asB_cases (f1 ρ) with ⟨er, e⟩ | ⟨d, e, e'⟩ | ⟨k, e⟩
  · rw [e] at q
    exact td_i S (fun er' he => by rw [e] at he; cases he; exact q) fun v H1 B1 d x r he => by rw [e] at he; cases he
  · rw [e'] at q; exact q.elim
  · refine td_i S (fun er' he => by rw [e] at he; cases he) fun v H1 B1 d x r he => ?_
    rw [e] at he; cases he
    rw [e] at q
    simp only [Rep] at r
    exact ⟨k, r, q _ B1 H1 x rep_bl⟩
def eIf (c : Sto → M Bool) (f g : Sto → M D) : Sto → M D := fun ρ => (c ρ).bind fun k => if k then f ρ else g ρ
theorem de_if (hc : PT X c (TB (gd X) W g1)) (ha : PE X a (TD (gd X) W f1)) (hb : PE X b (TD (gd X) W f2)) : PE X (.IfExp c a b pos) (TD (gd X) W (eIf g1 f1 f2)) := (pe_ifExp hc ha hb).wk fun σ H Q ⟨B0, H0, B, ρ, S, q⟩ => by
  unfold eIf at q
  refine tb_i S (fun er he => by rw [he] at q; exact q) fun k H1 B1 x e => ?_
  rw [e] at q
  cases k with
  | true =>
    show TD (gd X) W f1 σ H1 Q
    have q' : DPost (gd X) W B H σ Q (f1 ρ) := q
    refine td_i (S.mono x) (fun er he => by rw [he] at q'; exact ErOk.mono q' x) fun v2 H2 B2 d2 x2 r2 e2 => ?_
    rw [e2] at q'; exact q' v2 B2 H2 (x.trans x2) r2
  | false =>
    show TD (gd X) W f2 σ H1 Q
    have q' : DPost (gd X) W B H σ Q (f2 ρ) := q
    refine td_i (S.mono x) (fun er he => by rw [he] at q'; exact ErOk.mono q' x) fun v2 H2 B2 d2 x2 r2 e2 => ?_
    rw [e2] at q'; exact q' v2 B2 H2 (x.trans x2) r2
/-! ### a op b op' c -/
def eChain (g g' : D → D → Option D) (f1 f2 f3 : Sto → M D) : Sto → M D := fun ρ => (f1 ρ).bind fun a => (f2 ρ).bind fun b => (asB (opt (g a b))).bind fun k => if k then (f3 ρ).bind fun c => opt (g' b c) else .ok (.bl false)
theorem chain_tr {G : Gd} {r r' : R2} {g g' : D → D → Option D} (hg : OpI G r g) (hg' : OpI G r' g') : ∀ σ H Q, TD G W (eChain g g' f1 f2 f3) σ H Q → tChain r r' (TR G W f1) (TR G W f2) (TR G W f3) σ H Q := fun σ H Q ⟨B0, H0, B, ρ, S, q⟩ => by
  refine tr_i S (fun er he => ?_) fun x H1 B1 d x1 r1 e1 => tr_i (S.mono x1) (fun er he => ?_) fun y H2 B2 e x2 r2 e2 => ?_
  · have z : eChain g g' f1 f2 f3 ρ = .error er := by unfold eChain; rw [he]; rfl
    rw [z] at q; exact q
  · have z : eChain g g' f1 f2 f3 ρ = .error er := by unfold eChain; rw [e1, he]; rfl
    rw [z] at q; exact ErOk.mono q x1
  · have z : eChain g g' f1 f2 f3 ρ = (asB (opt (g d e))).bind fun k => if k then (f3 ρ).bind fun c => opt (g' e c) else .ok (.bl false) := by unfold eChain; rw [e1, e2]; rfl
    rw [z] at q
    cases hz : g d e with
    | none => rw [hz] at q; exact q.elim
    | some w =>
      rw [hz] at q
      rcases asB_cases (opt (some w)) with ⟨er, e'⟩ | ⟨d', e', e''⟩ | ⟨k, e'⟩
      · cases e'
      · rw [e''] at q; exact q.elim
      · cases e'
        refine hg B2 H2 d e x y _ _ x2.i' (r1.mono x2) r2 hz fun v B' H' x3 r3 => ?_
        simp only [Rep] at r3
        refine ⟨k, r3, ?_⟩
        have x4 := (x1.trans x2).trans x3
        cases k with
        | true =>
          show TR G W f3 σ H' _
          have q' : DPost G W B H σ Q ((f3 ρ).bind fun c => opt (g' e c)) := q
          refine tr_i (S.mono x4) (fun er he => by rw [he] at q'; exact ErOk.mono q' x4) fun w' H4 B4 c x5 r5 e5 => ?_
          rw [e5] at q'
          cases hz' : g' e c with
          | none =>
            have q2 : DPost G W B H σ Q (opt (g' e c)) := q'
            rw [hz'] at q2; exact q2.elim
          | some w2 =>
            have q2 : DPost G W B H σ Q (opt (g' e c)) := q'
            rw [hz'] at q2
            exact hg' B4 H4 e c y w' w2 Q x5.i' ((r2.mono x3).mono x5) r5 hz' fun v6 B6 H6 x6 r6 => q2 v6 B6 H6 ((x4.trans x5).trans x6) r6
        | false => exact q (.bl false) B' H' x4 rep_bl
theorem de_chain {op op' : CmpOp} {r r' : R2} {g g' : D → D → Option D} (hg : OpI (gd X) r g) (hg' : OpI (gd X) r' g') (ho : OpR X (compareOp op) r) (ho' : OpR X (compareOp op') r') (ha : PE X a (TR (gd X) W f1)) (hb : PE X b (TR (gd X) W f2)) (hc : PE X c (TR (gd X) W f3))
    (hm : lastMarks [op, op'] [b, c] = false := by with_unfolding_all rfl) : PE X (.Compare a [op, op'] [b, c] pos) (TD (gd X) W (eChain g g' f1 f2 f3)) := (pe_chain ho ho' ha hb hc hm).wk (chain_tr hg hg')
theorem db_chain {op op' : CmpOp} {r r' : R2} {g g' : D → D → Option D} (hg : OpI (gd X) r g) (hg' : OpI (gd X) r' g') (ho : OpR X (compareOp op) r) (ho' : OpR X (compareOp op') r') (ha : PE X a (TR (gd X) W f1)) (hb : PE X b (TR (gd X) W f2)) (hc : PE X c (TR (gd X) W f3))
    (hm : lastMarks [op, op'] [b, c] = false := by with_unfolding_all rfl) : PT X (.Compare a [op, op'] [b, c] pos) (TB (gd X) W (bV (eChain g g' f1 f2 f3))) := (pt_chain ho ho' ha hb hc hm).wk fun σ H Q h => chain_tr hg hg' σ H _ (td_of_b h)
end

/-! ### the operators -/
theorem OpI.or {G : Gd} {r r' : R2} {g g' : D → D → Option D} (h : OpI G r g) (h' : OpI G r' g') : OpI G (fun x y H Q => r x y H Q ∨ r' x y H Q) (fun d e => match g d e with | some z => some z | none => g' d e) := fun B H d e x y z Q s r1 r2 hz k => by
  dsimp only at hz
  cases hg : g d e with
  | some w =>
    rw [hg] at hz
    exact .inl (h B H d e x y z Q s r1 r2 (by rw [hg]; exact hz) k)
  | none =>
    rw [hg] at hz
    exact .inr (h' B H d e x y z Q s r1 r2 hz k)
def lim (n : Nat) : Bool := decide (n ≤ 1000000)
theorem lim_of {n : Nat} (h : lim n = true) : n ≤ sizeLine := Nat.le_trans (of_decide_eq_true h) (by rw [sizeLine_eq]; decide)
theorem lim_lt {n : Nat} (h : lim n = true) : n < sizeLine := Nat.lt_of_le_of_lt (of_decide_eq_true h) (by rw [sizeLine_eq]; decide)
def D.add : D → D → Option D
  | .int a, .int b => some (.int (a + b))
  | .str a, .str b => if lim (a.length + b.length) then some (.str (a ++ b)) else none
  | .lst a, .lst b => if lim (a.length + b.length) then some (.lst (a ++ b)) else none
  | .tup a, .tup b => if lim (a.length + b.length) then some (.tup (a ++ b)) else none
  | _, _ => none
def D.sub : D → D → Option D
  | .int a, .int b => some (.int (a - b))
  | _, _ => none
def D.mul : D → D → Option D
  | .int a, .int b => if a.natAbs.log2 + b.natAbs.log2 < 1000000 then some (.int (a * b)) else none
  | .lst a, .int k => if 0 ≤ k ∧ k ≤ 1000000 ∧ lim (a.length * k.toNat) then some (.lst (List.replicate k.toNat a).flatten) else none
  | .tup a, .int k => if 2 ≤ k ∧ k ≤ 1000 ∧ a.length ≤ 1000 ∧ a ≠ [] then some (.tup (List.replicate k.toNat a).flatten) else none
  | _, _ => none
def D.fdiv : D → D → Option D
  | .int a, .int b => if 0 < b ∧ b.natAbs.log2 < 9000 then some (.int (a / b)) else none
  | _, _ => none
def D.mod : D → D → Option D
  | .int a, .int b => if 0 < b then some (.int (a % b)) else none
  | _, _ => none
def D.pow : D → D → Option D
  | .int a, .int b => if 0 ≤ b ∧ b ≤ 1000 ∧ a.natAbs < 1000 then some (.int (a ^ b.toNat)) else none
  | _, _ => none
def cmpI (p : Int → Int → Bool) : D → D → Option D
  | .int a, .int b => some (.bl (p a b))
  | _, _ => none
abbrev D.lt := cmpI fun i j => decide (i < j)
abbrev D.le := cmpI fun i j => decide (i ≤ j)
abbrev D.gt := cmpI fun i j => decide (j < i)
abbrev D.ge := cmpI fun i j => decide (j ≤ i)
mutual
def D.toP : D → PyData
  | .non => .none
  | .bl b => .bool b
  | .int i => .int i
  | .str x => .str x
  | .lst ds => .list (toPs ds)
  | .fls ds => .list (toPs ds)
  | .tup ds => .tuple (toPs ds)
  | .ctp ds => .tuple (toPs ds)
  | .dic _ => .dict []
  | .obj _ _ => .dict []
def toPs : List D → List PyData
  | [] => []
  | d :: ds => d.toP :: toPs ds
end
def D.eq (d e : D) : Option D := if SeqAt.shaped d.toP && SeqAt.shaped e.toP then some (.bl (PyData.eqv d.toP e.toP)) else none
def D.ne (d e : D) : Option D := if SeqAt.shaped d.toP && SeqAt.shaped e.toP then some (.bl (!PyData.eqv d.toP e.toP)) else none
section
variable {G : Gd} {B H : Hp}
mutual
theorem rep_dp (s : Same B H) : ∀ (d : D) (v : V), Rep G B d v → PyData.canLay0 d.toP = true → Dp G.K H v d.toP
  | .non, v, r, _ => by simp only [Rep] at r; subst r; simp only [D.toP]; exact .non
  | .bl b, v, r, _ => by simp only [Rep] at r; subst r; simp only [D.toP]; exact .bl b
  | .int i, v, r, _ => by simp only [Rep] at r; subst r; simp only [D.toP]; exact .int i
  | .str x, v, r, _ => by simp only [Rep] at r; subst r; simp only [D.toP]; exact .str x
  | .lst ds, v, r, c => by
    simp only [Rep] at r
    obtain ⟨a, xs, e, q, rs⟩ := r
    subst e
    simp only [D.toP, PyData.canLay0] at c ⊢
    exact .lst (.of (s _ _ q)) (reps_dp s ds xs rs c)
  | .fls ds, v, r, c => by
    simp only [Rep] at r
    obtain ⟨a, xs, e, q, rs⟩ := r
    subst e
    simp only [D.toP, PyData.canLay0] at c ⊢
    exact .lst (sql_mono s q) (reps_dp s ds xs rs c)
  | .tup ds, v, r, c => by
    simp only [Rep] at r
    obtain ⟨a, xs, e, q, rs⟩ := r
    subst e
    simp only [D.toP, PyData.canLay0] at c ⊢
    exact .tup (.of (s _ _ q)) (reps_dp s ds xs rs c)
  | .ctp ds, v, r, c => by
    simp only [Rep] at r
    obtain ⟨a, xs, e, q, rs⟩ := r
    subst e
    simp only [D.toP, PyData.canLay0] at c ⊢
    exact .tup (sqt_mono s q) (reps_dp s ds xs rs c)
  | .dic _, v, r, c => by simp [D.toP, PyData.canLay0] at c
  | .obj _ _, v, r, c => by simp [D.toP, PyData.canLay0] at c
theorem reps_dp (s : Same B H) : ∀ (ds : List D) (vs : List V), Reps G B ds vs → PyData.canLayAll0 (toPs ds) = true → DpAll G.K H vs (toPs ds)
  | [], vs, r, _ => by simp only [Reps] at r; subst r; simp only [toPs]; exact .nil
  | d :: ds, vs, r, c => by
    simp only [Reps] at r
    obtain ⟨v, t, e, r1, r2⟩ := r
    subst e
    simp only [toPs, PyData.canLayAll0, Bool.and_eq_true] at c ⊢
    exact .cons (rep_dp s d v r1 c.1) (reps_dp s ds t r2 c.2)
end
theorem rdb_dp (s : Same B H) {d : D} {v : V} (r : Rdb G B H d v) (c : SeqAt.shaped d.toP = true) : Dp G.K H v d.toP := by
  have c' := SeqAt.canLay_of_shaped c
  rcases r with r | ⟨p, h1, h2, h3⟩
  · exact rep_dp s d v r c'
  · cases d with
    | lst ds =>
      obtain ⟨xs, q, rs⟩ := h3
      subst h1
      simp only [D.toP, PyData.canLay0] at c' ⊢
      exact .lst (.of q) (reps_dp s ds xs rs c')
    | dic kvs => simp [D.toP, PyData.canLay0] at c'
    | _ => exact h3.elim
end
section
variable {G : Gd}
theorem opi_add : OpI G (fun x y H Q => (rI0 fun i j => .int (i + j)) x y H Q ∨ (∃ i j, x = .str i ∧ y = .str j ∧ i.length + j.length ≤ sizeLine ∧ Q (.str (i ++ j)) H) ∨ rCat x y H Q ∨ rCatA G.K x y H Q) D.add := fun B H d e x y z Q s r1 r2 hz k => by
  cases d with
  | int a =>
    cases e with
    | int b => cases hz; exact .inl ⟨a, b, rdb_int r1, rdb_int r2, k _ B H (Ext.refl s) rep_int⟩
    | _ => cases hz
  | str a =>
    cases e with
    | str b =>
      simp only [D.add] at hz
      split at hz
      · rename_i hl; cases hz; exact .inr (.inl ⟨a, b, rdb_str r1, rdb_str r2, lim_of hl, k _ B H (Ext.refl s) rep_str⟩)
      · cases hz
    | _ => cases hz
  | lst a =>
    cases e with
    | lst b =>
      simp only [D.add] at hz
      split at hz
      · rename_i hl
        cases hz
        obtain ⟨p, xs, rfl, h1, q1⟩ := rdb_lst s r1
        obtain ⟨p', ys, rfl, h2, q2⟩ := rdb_lst s r2
        refine .inr (.inr (.inl ⟨p, p', xs, ys, rfl, rfl, h1, h2, by rw [reps_len q1, reps_len q2]; exact lim_of hl, fun w hw => ?_⟩))
        have x := Ext.new (o := .lst (xs ++ ys)) s hw
        exact k _ _ _ x (rep_lst upd_same (reps_mono x.b _ _ (reps_app q1 q2)))
      · cases hz
    | _ => cases hz
  | tup a =>
    cases e with
    | tup b =>
      simp only [D.add] at hz
      split at hz
      · rename_i hl
        cases hz
        obtain ⟨p, xs, rfl, h1, b1, q1⟩ := rdb_tup s r1
        obtain ⟨p', ys, rfl, h2, b2, q2⟩ := rdb_tup s r2
        refine .inr (.inr (.inr ⟨p, p', xs, ys, rfl, rfl, .of h1, .of h2, by rw [reps_len q1, reps_len q2]; exact lim_of hl, fun e => ?_, fun _ e => ?_, fun _ _ w hw => ?_⟩))
        · have e' : a = [] := by have := reps_len q1; rw [e] at this; exact List.eq_nil_of_length_eq_zero this.symm
          subst e'
          exact k _ B H (Ext.refl s) (rep_tup b2 q2)
        · have e' : b = [] := by have := reps_len q2; rw [e] at this; exact List.eq_nil_of_length_eq_zero this.symm
          subst e'
          rw [List.append_nil] at k
          exact k _ B H (Ext.refl s) (rep_tup b1 q1)
        · have x := Ext.new (o := .tup (xs ++ ys)) s hw
          exact k _ _ _ x (rep_tup upd_same (reps_mono x.b _ _ (reps_app q1 q2)))
      · cases hz
    | _ => cases hz
  | _ => cases e <;> cases hz
theorem opr_add {X : Cx} : OpR X (binaryOp .Add) (fun x y H Q => (rI0 fun i j => .int (i + j)) x y H Q ∨ (∃ i j, x = .str i ∧ y = .str j ∧ i.length + j.length ≤ sizeLine ∧ Q (.str (i ++ j)) H) ∨ rCat x y H Q ∨ rCatA X.K x y H Q) := op_add.or (op_add_str.or (op_cat.or op_catA))
theorem opi_int {g : Int → Int → Int} {h : D → D → Option D} {C : Int → Int → Prop} (hh : ∀ d e z, h d e = some z → ∃ i j, d = .int i ∧ e = .int j ∧ C i j ∧ z = .int (g i j)) : OpI G (rI C fun i j => .int (g i j)) h := fun B H d e x y z Q s r1 r2 hz k => by
  obtain ⟨i, j, rfl, rfl, c, rfl⟩ := hh d e z hz
  exact ⟨i, j, rdb_int r1, rdb_int r2, c, k _ B H (Ext.refl s) rep_int⟩
theorem opi_sub : OpI G (rI0 fun i j => .int (i - j)) D.sub := fun B H d e x y z Q s r1 r2 hz k => by
  cases d with
  | int a =>
    cases e with
    | int b => cases hz; exact ⟨a, b, rdb_int r1, rdb_int r2, k _ B H (Ext.refl s) rep_int⟩
    | _ => cases hz
  | _ => cases e <;> cases hz
theorem opi_cmp {p : Int → Int → Bool} : OpI G (rI0 fun i j => .bl (p i j)) (cmpI p) := fun B H d e x y z Q s r1 r2 hz k => by
  cases d with
  | int a =>
    cases e with
    | int b => cases hz; exact ⟨a, b, rdb_int r1, rdb_int r2, k _ B H (Ext.refl s) rep_bl⟩
    | _ => cases hz
  | _ => cases e <;> cases hz
theorem opi_fdiv : OpI G (rI CDivW fun i j => .int (i / j)) D.fdiv := opi_int fun d e z hz => by
  cases d with
  | int a =>
    cases e with
    | int b =>
      simp only [D.fdiv] at hz
      split at hz
      · rename_i c; cases hz; exact ⟨a, b, rfl, rfl, c, rfl⟩
      · cases hz
    | _ => cases hz
  | _ => cases e <;> cases hz
theorem opi_mod : OpI G (rI (fun _ j => 0 < j) fun i j => .int (i % j)) D.mod := opi_int fun d e z hz => by
  cases d with
  | int a =>
    cases e with
    | int b =>
      simp only [D.mod] at hz
      split at hz
      · rename_i c; cases hz; exact ⟨a, b, rfl, rfl, c, rfl⟩
      · cases hz
    | _ => cases hz
  | _ => cases e <;> cases hz
theorem opi_pow : OpI G (rI CPow fun i j => .int (i ^ j.toNat)) D.pow := opi_int fun d e z hz => by
  cases d with
  | int a =>
    cases e with
    | int b =>
      simp only [D.pow] at hz
      split at hz
      · rename_i c; cases hz; exact ⟨a, b, rfl, rfl, ⟨c.1, by omega, by have := c.2.2; omega⟩, rfl⟩
      · cases hz
    | _ => cases hz
  | _ => cases e <;> cases hz
theorem opi_mul : OpI G (fun x y H Q => (rI CMulW fun i j => .int (i * j)) x y H Q ∨ rRep x y H Q ∨ rRepT G.K x y H Q) D.mul := fun B H d e x y z Q s r1 r2 hz k => by
  cases d with
  | int a =>
    cases e with
    | int b =>
      simp only [D.mul] at hz
      split at hz
      · rename_i c; cases hz; exact .inl ⟨a, b, rdb_int r1, rdb_int r2, c, k _ B H (Ext.refl s) rep_int⟩
      · cases hz
    | _ => cases hz
  | lst a =>
    cases e with
    | int b =>
      simp only [D.mul] at hz
      split at hz
      · rename_i c
        cases hz
        obtain ⟨p, xs, rfl, h1, q1⟩ := rdb_lst s r1
        refine .inr (.inl ⟨p, b, xs, rfl, rdb_int r2, h1, by omega, by omega, by rw [reps_len q1]; exact lim_of c.2.2, fun w hw => ?_⟩)
        have x := Ext.new (o := .lst (List.replicate b.toNat xs).flatten) s hw
        exact k _ _ _ x (rep_lst upd_same (reps_mono x.b _ _ (reps_rep q1 _)))
      · cases hz
    | _ => cases hz
  | tup a =>
    cases e with
    | int b =>
      simp only [D.mul] at hz
      split at hz
      · rename_i c
        cases hz
        obtain ⟨p, xs, rfl, h1, b1, q1⟩ := rdb_tup s r1
        refine .inr (.inr ⟨p, b, xs, rfl, rdb_int r2, .of h1, fun e => c.2.2.2 ?_, c.1, c.2.1, by rw [reps_len q1]; exact c.2.2.1, fun w hw => ?_⟩)
        · have := reps_len q1; rw [e] at this; exact List.eq_nil_of_length_eq_zero this.symm
        · have x := Ext.new (o := .tup (List.replicate b.toNat xs).flatten) s hw
          exact k _ _ _ x (rep_tup upd_same (reps_mono x.b _ _ (reps_rep q1 _)))
      · cases hz
    | _ => cases hz
  | _ => cases e <;> cases hz
theorem opr_mul {X : Cx} : OpR X (binaryOp .Mult) (fun x y H Q => (rI CMulW fun i j => .int (i * j)) x y H Q ∨ rRep x y H Q ∨ rRepT X.K x y H Q) := op_mulW.or (op_rep.or op_repT)
theorem opi_eq : OpI G (rEqD G.K) D.eq := fun B H d e x y z Q s r1 r2 hz k => by
  unfold D.eq at hz
  split at hz
  · rename_i c
    rw [Bool.and_eq_true] at c
    cases hz
    exact ⟨d.toP, e.toP, rdb_dp s r1 c.1, rdb_dp s r2 c.2, c.1, c.2, k _ B H (Ext.refl s) rep_bl⟩
  · cases hz
theorem opi_ne : OpI G (rNeD G.K) D.ne := fun B H d e x y z Q s r1 r2 hz k => by
  unfold D.ne at hz
  split at hz
  · rename_i c
    rw [Bool.and_eq_true] at c
    cases hz
    exact ⟨d.toP, e.toP, rdb_dp s r1 c.1, rdb_dp s r2 c.2, c.1, c.2, k _ B H (Ext.refl s) rep_bl⟩
  · cases hz
/-- is None -/
def D.isN : D → D → Option D
  | d, .non => some (.bl (match d with | .non => true | _ => false))
  | _, _ => none
def D.notN : D → D → Option D
  | d, .non => some (.bl (match d with | .non => false | _ => true))
  | _, _ => none
theorem rdb_isN {B H : Hp} {d : D} {v : V} (r : Rdb G B H d v) : decide (v = .non) = (match d with | .non => true | _ => false) := by
  rcases r with r | ⟨p, h1, h2, h3⟩
  · cases d with
    | non => simp only [Rep] at r; subst r; rfl
    | bl b => simp only [Rep] at r; subst r; rfl
    | int b => simp only [Rep] at r; subst r; rfl
    | str b => simp only [Rep] at r; subst r; rfl
    | lst ds => simp only [Rep] at r; obtain ⟨a, _, rfl, _⟩ := r; rfl
    | fls ds => simp only [Rep] at r; obtain ⟨a, _, rfl, _⟩ := r; rfl
    | tup ds => simp only [Rep] at r; obtain ⟨a, _, rfl, _⟩ := r; rfl
    | ctp ds => simp only [Rep] at r; obtain ⟨a, _, rfl, _⟩ := r; rfl
    | dic ds => simp only [Rep] at r; obtain ⟨a, rfl, _⟩ := r; rfl
    | obj c ds => simp only [Rep] at r; obtain ⟨a, _, _, _, rfl, _⟩ := r; rfl
  · subst h1
    cases d with
    | non => exact h3.elim
    | _ => rfl
theorem opi_isN : OpI G (fun x y H Q => y = .non ∧ Q (.bl (decide (x = .non))) H) D.isN := fun B H d e x y z Q s r1 r2 hz k => by
  cases e with
  | non =>
    cases d <;> (cases hz; refine ⟨rdb_non r2, ?_⟩; rw [rdb_isN r1]; exact k _ B H (Ext.refl s) rep_bl)
  | _ => cases d <;> cases hz
theorem opi_notN : OpI G (fun x y H Q => y = .non ∧ Q (.bl (!decide (x = .non))) H) D.notN := fun B H d e x y z Q s r1 r2 hz k => by
  cases e with
  | non =>
    cases d <;> (cases hz; refine ⟨rdb_non r2, ?_⟩; rw [rdb_isN r1]; exact k _ B H (Ext.refl s) rep_bl)
  | _ => cases d <;> cases hz
end
end DL

namespace DL
open PySem PySem.Spec PyProof.Rows L2

/-! ### items by place, slices -/
section
variable {G : Gd} {B H : Hp}
theorem reps_at {ds : List D} {vs : List V} {i : Int} {d : D} (r : Reps G B ds vs) (h : atI ds i = some d) : ∃ v, atI vs i = some v ∧ Rep G B d v := by
  unfold atI at h ⊢
  rw [reps_len r]
  cases hx : ixN ds.length i with
  | none => rw [hx] at h; cases h
  | some j =>
    rw [hx] at h
    exact reps_get r h
end
def D.item : D → D → Option D
  | .lst ds, .int i => atI ds i
  | .fls ds, .int i => atI ds i
  | .tup ds, .int i => atI ds i
  | .ctp ds, .int i => atI ds i
  | .str z, .int i => if lim z.length then (atI z.cps.toList i).map fun c => .str ⟨#[c]⟩ else none
  | _, _ => none
theorem opi_item {G : Gd} : OpI G (rIx G.K) D.item := fun B H d e x y z Q s r1 r2 hz k => by
  cases e with
  | int i =>
    have y' := rdb_int r2
    subst y'
    cases d with
    | lst ds =>
      obtain ⟨a, xs, rfl, h1, q⟩ := rdb_lst s r1
      obtain ⟨v, hv, rv⟩ := reps_at q hz
      exact .inl ⟨a, xs, i, v, rfl, rfl, .of h1, hv, k v B H (Ext.refl s) rv⟩
    | fls ds =>
      obtain ⟨a, xs, rfl, h1, q⟩ := rdb_fls s r1
      obtain ⟨v, hv, rv⟩ := reps_at q hz
      exact .inl ⟨a, xs, i, v, rfl, rfl, h1, hv, k v B H (Ext.refl s) rv⟩
    | tup ds =>
      obtain ⟨a, xs, rfl, h1, _, q⟩ := rdb_tup s r1
      obtain ⟨v, hv, rv⟩ := reps_at q hz
      exact .inr (.inl ⟨a, xs, i, v, rfl, rfl, .of h1, hv, k v B H (Ext.refl s) rv⟩)
    | ctp ds =>
      obtain ⟨a, xs, rfl, h1, q⟩ := rdb_ctp s r1
      obtain ⟨v, hv, rv⟩ := reps_at q hz
      exact .inr (.inl ⟨a, xs, i, v, rfl, rfl, h1, hv, k v B H (Ext.refl s) rv⟩)
    | str w =>
      have x' := rdb_str r1
      subst x'
      simp only [D.item] at hz
      split at hz
      · rename_i hl
        cases hc : atI w.cps.toList i with
        | none => rw [hc] at hz; cases hz
        | some c =>
          rw [hc] at hz
          cases hz
          exact .inr (.inr ⟨w, i, c, rfl, rfl, lim_of hl, hc, k _ B H (Ext.refl s) rep_str⟩)
      · cases hz
    | _ => cases hz
  | _ => cases d <;> cases hz
section
variable {X : Cx} {W : WX} {a b c : Expr} {f1 f2 f3 : Sto → M D} {pos : Pos}
theorem de_ix (ha : PE X a (TR (gd X) W f1)) (hb : PE X b (TR (gd X) W f2)) (hs : PlainIx b := by intro _ _; rfl) : PE X (.Subscript a b pos) (TD (gd X) W (eBin D.item f1 f2)) := (pe_ix ix_seq ha hb hs).wk (bin_tr opi_item)
end
def cut {α : Type} (xs : List α) (lo hi : Option Int) : List α := (xs.drop (HT.sIx xs.length 0 lo)).take (HT.sIx xs.length xs.length hi - HT.sIx xs.length 0 lo)
theorem reps_cut {G : Gd} {B : Hp} {ds : List D} {vs : List V} {lo hi : Option Int} (r : Reps G B ds vs) : Reps G B (cut ds lo hi) (cutV vs lo hi) := by
  unfold cut cutV
  rw [reps_len r]
  exact reps_take _ (reps_drop _ r)
def OPost (G : Gd) (W : WX) (B H : Hp) (σ : L2.St) (Q : Option Int → Hp → Prop) : M (Option Int) → Prop
  | .ok o => ∀ B' H', Ext B H B' H' → Q o H'
  | .error e => ErOk G W B H σ e
def TOD (G : Gd) (W : WX) (f : Sto → M (Option Int)) : TO := fun σ H Q => ∃ B0 H0 B ρ, StOk G B0 H0 B H σ ρ ∧ OPost G W B H σ Q (f ρ)
theorem to_i {G : Gd} {W : WX} {B0 H0 B H : Hp} {σ : L2.St} {ρ : Sto} {f : Sto → M (Option Int)} {Q : Option Int → Hp → Prop} (S : StOk G B0 H0 B H σ ρ) (hE : ∀ e, f ρ = .error e → ErOk G W B H σ e) (k : ∀ b H1 B1, Ext B H B1 H1 → f ρ = .ok b → Q b H1) : TOD G W f σ H Q := by
  refine ⟨B0, H0, B, ρ, S, ?_⟩
  cases hf : f ρ with
  | ok d => exact fun B' H' x => k d H' B' x hf
  | error e => exact hE e hf
def oNo : Sto → M (Option Int) := fun _ => .ok none
def oI (f : Sto → M D) : Sto → M (Option Int) := fun ρ => match f ρ with
  | .ok (.int i) => .ok (some i)
  | .ok _ => .error .stuck
  | .error e => .error e
section
variable {X : Cx} {W : WX} {e : Expr} {f : Sto → M D}
theorem do_no : PO X none (TOD (gd X) W oNo) := ⟨fun pins s σ H Q I ⟨B0, H0, B, ρ, S, q⟩ => po_none.run pins s σ H Q I (q B H (Ext.refl S.ext.i'))⟩
theorem do_i (h : PE X e (TD (gd X) W f)) : PO X (some e) (TOD (gd X) W (oI f)) := ⟨fun pins s σ H Q I ⟨B0, H0, B, ρ, S, q⟩ => (po_some h).run pins s σ H Q I (by
  unfold oI at q
  refine td_i S (fun er he => by rw [he] at q; exact q) fun v H1 B1 d x r hd => ?_
  rw [hd] at q
  cases d with
  | int i => simp only [Rep] at r; exact ⟨i, r, q B1 H1 x⟩
  | _ => exact q.elim)⟩
end
def D.slice : D → Option Int → Option Int → Option D
  | .lst ds, lo, hi => some (.lst (cut ds lo hi))
  | .fls ds, lo, hi => some (.lst (cut ds lo hi))
  | .tup ds, lo, hi => some (.tup (cut ds lo hi))
  | .str z, lo, hi => if lim z.length then some (.str (cutS z lo hi)) else none
  | _, _, _ => none
def eSl (f : Sto → M D) (lo hi : Sto → M (Option Int)) : Sto → M D := fun ρ => (f ρ).bind fun d => (lo ρ).bind fun l => (hi ρ).bind fun h => opt (d.slice l h)
theorem cut_whole {α : Type} {xs : List α} {lo hi : Option Int} (h : HT.sIx xs.length 0 lo = 0 ∧ HT.sIx xs.length xs.length hi = xs.length) : cut xs lo hi = xs := by
  unfold cut
  rw [h.1, h.2]
  simp
def rSlX (K : PySem.W.Frag) : V → Option Int → Option Int → Hp → VK → Prop := fun x lo hi H Q => rSlL K x lo hi H Q ∨ rSlA K x lo hi H Q ∨ rSlS x lo hi H Q
theorem sl_x {X : Cx} : SlR X (rSlX X.K) := sl_list.or (sl_tupA.or sl_str)
theorem sli {G : Gd} {B H : Hp} {d z : D} {x : V} {lo hi : Option Int} {Q : VK} (s : Same B H) (r : Rdb G B H d x) (hz : d.slice lo hi = some z) (k : ∀ v B' H', Ext B H B' H' → Rep G B' z v → Q v H') : rSlX G.K x lo hi H Q := by
  cases d with
  | lst ds =>
    cases hz
    obtain ⟨a, xs, rfl, h1, q⟩ := rdb_lst s r
    refine .inl ⟨a, xs, rfl, .of h1, fun p hp => ?_⟩
    have x := Ext.new (o := .lst (cutV xs lo hi)) s hp
    exact k _ _ _ x (rep_lst upd_same (reps_mono x.b _ _ (reps_cut q)))
  | fls ds =>
    cases hz
    obtain ⟨a, xs, rfl, h1, q⟩ := rdb_fls s r
    refine .inl ⟨a, xs, rfl, h1, fun p hp => ?_⟩
    have x := Ext.new (o := .lst (cutV xs lo hi)) s hp
    exact k _ _ _ x (rep_lst upd_same (reps_mono x.b _ _ (reps_cut q)))
  | tup ds =>
    cases hz
    obtain ⟨a, xs, rfl, h1, b1, q⟩ := rdb_tup s r
    refine .inr (.inl ⟨a, xs, rfl, .of h1, fun w => ?_, fun _ p hp => ?_⟩)
    · have w' : cut ds lo hi = ds := cut_whole (by rw [← reps_len q]; exact w)
      rw [w'] at k
      exact k _ B H (Ext.refl s) (rep_tup b1 q)
    · have x := Ext.new (o := .tup (cutV xs lo hi)) s hp
      exact k _ _ _ x (rep_tup upd_same (reps_mono x.b _ _ (reps_cut q)))
  | str w =>
    simp only [D.slice] at hz
    split at hz
    · rename_i hl
      cases hz
      exact .inr (.inr ⟨w, rdb_str r, lim_of hl, k _ B H (Ext.refl s) rep_str⟩)
    · cases hz
  | _ => cases hz
section
variable {X : Cx} {W : WX} {e : Expr} {lo hi : Option Expr} {f : Sto → M D} {fl fh : Sto → M (Option Int)} {pos p2 : Pos}
theorem de_sl (he : PE X e (TR (gd X) W f)) (hl : PO X lo (TOD (gd X) W fl)) (hh : PO X hi (TOD (gd X) W fh)) : PE X (.Subscript e (.Slice lo hi none p2) pos) (TD (gd X) W (eSl f fl fh)) := (pe_slice sl_x he hl hh).wk fun σ H Q ⟨B0, H0, B, ρ, S, q⟩ => by
  refine tr_i S (fun er h => ?_) fun x H1 B1 d x1 r1 e1 => to_i (S.mono x1) (fun er h => ?_) fun l H2 B2 x2 e2 => to_i ((S.mono x1).mono x2) (fun er h => ?_) fun u H3 B3 x3 e3 => ?_
  · have z : eSl f fl fh ρ = .error er := by unfold eSl; rw [h]; rfl
    rw [z] at q; exact q
  · have z : eSl f fl fh ρ = .error er := by unfold eSl; rw [e1, h]; rfl
    rw [z] at q; exact ErOk.mono q x1
  · have z : eSl f fl fh ρ = .error er := by unfold eSl; rw [e1, e2, h]; rfl
    rw [z] at q; exact ErOk.mono q (x1.trans x2)
  · have z : eSl f fl fh ρ = opt (d.slice l u) := by unfold eSl; rw [e1, e2, e3]; rfl
    rw [z] at q
    cases hz : d.slice l u with
    | none => rw [hz] at q; exact q.elim
    | some w =>
      rw [hz] at q
      exact sli x3.i' ((r1.mono x2).mono x3) hz fun v B' H' x4 r4 => q v B' H' (((x1.trans x2).trans x3).trans x4) r4
end

/-! ### lists of arguments, displays -/
def aNil : Sto → M (List D) := fun _ => .ok []
def aCons (f : Sto → M D) (g : Sto → M (List D)) : Sto → M (List D) := fun ρ => (f ρ).bind fun d => (g ρ).bind fun ds => .ok (d :: ds)
section
variable {X : Cx} {W : WX} {e : Expr} {es : List Expr} {f : Sto → M D} {g : Sto → M (List D)} {pos : Pos}
theorem ad_nil : PA X [] (TAD (gd X) W aNil) := pa_nil.wk fun σ H Q ⟨B0, H0, B, ρ, S, q⟩ => q [] B H (Ext.refl S.ext.i') reps_nil
theorem ad_cons (h : PE X e (TD (gd X) W f)) (hr : PA X es (TAD (gd X) W g)) (hs : starEach (e :: es) X.env = (false, eval e X.env) :: starEach es X.env := by rfl) : PA X (e :: es) (TAD (gd X) W (aCons f g)) := (pa_cons h hr hs).wk fun σ H Q ⟨B0, H0, B, ρ, S, q⟩ => by
  refine td_i S (fun er h => ?_) fun x H1 B1 d x1 r1 e1 => tad_i (S.mono x1) (fun er h => ?_) fun vs H2 B2 ds x2 r2 e2 => ?_
  · have z : aCons f g ρ = .error er := by unfold aCons; rw [h]; rfl
    rw [z] at q; exact q
  · have z : aCons f g ρ = .error er := by unfold aCons; rw [e1, h]; rfl
    rw [z] at q; exact ErOk.mono q x1
  · have z : aCons f g ρ = .ok (d :: ds) := by unfold aCons; rw [e1, e2]; rfl
    rw [z] at q
    exact q _ B2 H2 (x1.trans x2) (reps_cons (rep_mono x2.b _ _ r1) r2)
theorem ar_nil : PA X [] (TAR (gd X) W aNil) := pa_nil.wk fun σ H Q ⟨B0, H0, B, ρ, S, q⟩ => q [] B H (Ext.refl S.ext.i') rfl
theorem ar_cons (h : PE X e (TR (gd X) W f)) (hr : PA X es (TAR (gd X) W g)) (hs : starEach (e :: es) X.env = (false, eval e X.env) :: starEach es X.env := by rfl) : PA X (e :: es) (TAR (gd X) W (aCons f g)) := (pa_cons h hr hs).wk fun σ H Q ⟨B0, H0, B, ρ, S, q⟩ => by
  refine tr_i S (fun er h => ?_) fun x H1 B1 d x1 r1 e1 => tar_i (S.mono x1) (fun er h => ?_) fun vs H2 B2 ds x2 r2 e2 => ?_
  · have z : aCons f g ρ = .error er := by unfold aCons; rw [h]; rfl
    rw [z] at q; exact q
  · have z : aCons f g ρ = .error er := by unfold aCons; rw [e1, h]; rfl
    rw [z] at q; exact ErOk.mono q x1
  · have z : aCons f g ρ = .ok (d :: ds) := by unfold aCons; rw [e1, e2]; rfl
    rw [z] at q
    exact q _ B2 H2 (x1.trans x2) ⟨x, vs, rfl, r1.mono x2, r2⟩
def eTup (g : Sto → M (List D)) : Sto → M D := fun ρ => (g ρ).bind fun ds => if lim ds.length then .ok (.tup ds) else .error .stuck
def eLst (g : Sto → M (List D)) : Sto → M D := fun ρ => (g ρ).bind fun ds => if lim ds.length then .ok (.lst ds) else .error .stuck
theorem de_tup {x1} (h : PA X es (TAD (gd X) W g)) : PE X (.Tuple es x1 pos) (TD (gd X) W (eTup g)) := (pe_tup h).wk fun σ H Q ⟨B0, H0, B, ρ, S, q⟩ => by
  unfold eTup at q
  refine tad_i S (fun er h => by rw [h] at q; exact q) fun vs H1 B1 ds x r e => ?_
  rw [e] at q
  have q' : DPost (gd X) W B H σ Q (if lim ds.length then .ok (.tup ds) else .error .stuck) := q
  split at q'
  · rename_i hl
    refine ⟨by rw [reps_len r]; exact lim_of hl, fun p hp => ?_⟩
    have x2 := Ext.new (o := .tup vs) x.i' hp
    exact q' _ _ _ (x.trans x2) (rep_tup upd_same (reps_mono x2.b _ _ r))
  · exact q'.elim
theorem df_lst (h : PA X es (TAD (gd X) W g)) : PE X (.List es pos) (TF (gd X) W (eLst g)) := (pe_lst h).wk fun σ H Q ⟨B0, H0, B, ρ, S, q⟩ => by
  unfold eLst at q
  refine tad_i S (fun er h => by rw [h] at q; exact q) fun vs H1 B1 ds x r e => ?_
  rw [e] at q
  have q' : FPost (gd X) W B H σ Q (if lim ds.length then .ok (.lst ds) else .error .stuck) := q
  split at q'
  · rename_i hl
    refine ⟨by rw [reps_len r]; exact lim_of hl, fun p hp => ?_⟩
    have x2 := Ext.own (o := .lst vs) x.i' hp
    exact q' p B1 _ (x.trans x2) (x.fresh hp) (none_of_same x.i' hp) ⟨vs, upd_same, r⟩
  · exact q'.elim
end

/-! ### calls of built-ins -/
def CallI (G : Gd) (r : List V → Hp → VK → Prop) (g : List D → Option D) : Prop := ∀ B H ds xs z Q, Same B H → Rdbs G B H ds xs → g ds = some z → (∀ v B' H', Ext B H B' H' → Rep G B' z v → Q v H') → r xs H Q
def CallF (G : Gd) (r : List V → Hp → VK → Prop) (g : List D → Option D) : Prop := ∀ B H ds xs z Q, Same B H → Rdbs G B H ds xs → g ds = some z → (∀ p B' H', Ext B H B' H' → H p = none → B' p = none → OwAt G B' H' p z → Q (.ref p) H') → r xs H Q
def eCall (g : List D → Option D) (f : Sto → M (List D)) : Sto → M D := fun ρ => (f ρ).bind fun ds => opt (g ds)
theorem call_tr {G : Gd} {W : WX} {r : List V → Hp → VK → Prop} {g : List D → Option D} {f : Sto → M (List D)} (hg : CallI G r g) : ∀ σ H Q, TD G W (eCall g f) σ H Q → tCB r (TAR G W f) σ H Q := fun σ H Q ⟨B0, H0, B, ρ, S, q⟩ => by
  unfold eCall at q
  refine tar_i S (fun er h => by rw [h] at q; exact q) fun vs H1 B1 ds x rr e => ?_
  rw [e] at q
  have q' : DPost G W B H σ Q (opt (g ds)) := q
  cases hz : g ds with
  | none => rw [hz] at q'; exact q'.elim
  | some z =>
    rw [hz] at q'
    exact hg B1 H1 ds vs z Q x.i' rr hz fun v B' H' x2 r2 => q' v B' H' (x.trans x2) r2
theorem callF_tr {G : Gd} {W : WX} {r : List V → Hp → VK → Prop} {g : List D → Option D} {f : Sto → M (List D)} (hg : CallF G r g) : ∀ σ H Q, TF G W (eCall g f) σ H Q → tCB r (TAR G W f) σ H Q := fun σ H Q ⟨B0, H0, B, ρ, S, q⟩ => by
  unfold eCall at q
  refine tar_i S (fun er h => by rw [h] at q; exact q) fun vs H1 B1 ds x rr e => ?_
  rw [e] at q
  have q' : FPost G W B H σ Q (opt (g ds)) := q
  cases hz : g ds with
  | none => rw [hz] at q'; exact q'.elim
  | some z =>
    rw [hz] at q'
    exact hg B1 H1 ds vs z Q x.i' rr hz fun p B' H' x2 h1 h2 h3 => q' p B' H' (x.trans x2) (x.fresh h1) h2 h3
section
variable {X : Cx} {W : WX} {x : Str} {p pos : Pos} {e : Expr} {es : List Expr} {f : Sto → M (List D)} {id T : String} {r : List V → Hp → VK → Prop} {g : List D → Option D}
theorem de_callB (hg : CallI (gd X) r g) (hc : CallR X (.builtin id) r) (hm : X.mg x = none) (ha : PA X (e :: es) (TAR (gd X) W f)) (hgl : Gl X x := by rfl) (hv : bootBuiltins x = some (.builtin id) := by decide +kernel) (hn : x ≠ "__name__" := by decide) (hdb : (x == ("__debug__" : Str)) = false := by decide)
    (he : starEach (e :: es) X.env = (false, eval e X.env) :: starEach es X.env := by rfl) (hpl : (backTo pos (starEach es X.env)).any (·.1) = false := by rfl) : PE X (.Call (.Name x p) (e :: es) [] pos) (TD (gd X) W (eCall g f)) := (pe_callB hc hgl hm hv ha hn hdb he hpl).wk (call_tr hg)
theorem de_callTy (hg : CallI (gd X) r g) (hc : CallR X (.type T) r) (hm : X.mg x = none) (ha : PA X (e :: es) (TAR (gd X) W f)) (hgl : Gl X x := by rfl) (hv : bootBuiltins x = some (.type T) := by decide +kernel) (hn : x ≠ "__name__" := by decide) (hdb : (x == ("__debug__" : Str)) = false := by decide)
    (he : starEach (e :: es) X.env = (false, eval e X.env) :: starEach es X.env := by rfl) (hpl : (backTo pos (starEach es X.env)).any (·.1) = false := by rfl) : PE X (.Call (.Name x p) (e :: es) [] pos) (TD (gd X) W (eCall g f)) := (pe_callTy hc hgl hm hv ha hn hdb he hpl).wk (call_tr hg)
theorem df_callTy (hg : CallF (gd X) r g) (hc : CallR X (.type T) r) (hm : X.mg x = none) (ha : PA X (e :: es) (TAR (gd X) W f)) (hgl : Gl X x := by rfl) (hv : bootBuiltins x = some (.type T) := by decide +kernel) (hn : x ≠ "__name__" := by decide) (hdb : (x == ("__debug__" : Str)) = false := by decide)
    (he : starEach (e :: es) X.env = (false, eval e X.env) :: starEach es X.env := by rfl) (hpl : (backTo pos (starEach es X.env)).any (·.1) = false := by rfl) : PE X (.Call (.Name x p) (e :: es) [] pos) (TF (gd X) W (eCall g f)) := (pe_callTy hc hgl hm hv ha hn hdb he hpl).wk (callF_tr hg)
end
section
variable {G : Gd}
def gLen : List D → Option D
  | [.str z] => if lim z.length then some (.int z.length) else none
  | [d] => d.items.map fun ds => .int ds.length
  | _ => none
theorem ci_len : CallI G (fun xs H Q => ∃ x n, xs = [x] ∧ LenV G.K x H n ∧ Q (.int n) H) gLen := fun B H ds xs z Q s r hz k => by
  match ds, r, hz with
  | [], r, hz => cases hz
  | _ :: _ :: _, r, hz => rename_i d _ _; cases d <;> cases hz
  | [d], ⟨v, t, e, r1, e2⟩, hz =>
    have e2' : t = [] := e2
    subst e e2'
    have seq : ∀ es, d.items = some es → (∀ v B' H', Ext B H B' H' → Rep G B' (.int (es.length : Int)) v → Q v H') → ∃ x n, [v] = [x] ∧ LenV G.K x H n ∧ Q (.int n) H := fun es hi kk => by
      obtain ⟨a, xs, rfl, h, q⟩ := rdb_seq s r1 hi
      refine ⟨_, xs.length, rfl, ?_, kk _ B H (Ext.refl s) (by rw [reps_len q]; exact rep_int)⟩
      rcases h with h | h
      · exact .inl ⟨xs, h, rfl⟩
      · exact .inr ⟨xs, h, rfl⟩
    cases d with
    | str w =>
      simp only [gLen] at hz
      split at hz
      · rename_i hl
        cases hz
        have v' := rdb_str r1
        subst v'
        exact ⟨_, w.length, rfl, ⟨lim_of hl, rfl⟩, k _ B H (Ext.refl s) rep_int⟩
      · cases hz
    | lst es => cases hz; exact seq es rfl k
    | fls es => cases hz; exact seq es rfl k
    | tup es => cases hz; exact seq es rfl k
    | ctp es => cases hz; exact seq es rfl k
    | _ => cases hz
def gList : List D → Option D
  | [d] => d.items.map fun ds => .lst ds
  | _ => none
theorem cf_list : CallF G (fun xs H Q => ∃ p ys, xs = [.ref p] ∧ (SqL G.K H p ys ∨ SqT G.K H p ys) ∧ ∀ l, H l = none → Q (.ref l) (upd H l (.lst ys))) gList := fun B H ds xs z Q s r hz k => by
  match ds, r, hz with
  | [], r, hz => cases hz
  | _ :: _ :: _, r, hz => cases hz
  | [d], ⟨v, t, e, r1, e2⟩, hz =>
    have e2' : t = [] := e2
    subst e e2'
    simp only [gList] at hz
    cases hi : d.items with
    | none => rw [hi] at hz; cases hz
    | some es =>
      rw [hi] at hz
      cases hz
      obtain ⟨a, xs, rfl, h, q⟩ := rdb_seq s r1 hi
      exact ⟨a, xs, rfl, h, fun l hl => k l B _ (Ext.own s hl) hl (none_of_same s hl) ⟨xs, upd_same, q⟩⟩
def gTuple : List D → Option D
  | [.lst ds] => some (.tup ds)
  | [.fls ds] => some (.tup ds)
  | [.tup ds] => some (.tup ds)
  | [.ctp ds] => some (.ctp ds)
  | _ => none
theorem ci_tuple : CallI G (fun xs H Q => ∃ p ys, xs = [.ref p] ∧ ((SqL G.K H p ys ∧ ∀ l, H l = none → Q (.ref l) (upd H l (.tup ys))) ∨ (SqT G.K H p ys ∧ Q (.ref p) H))) gTuple := fun B H ds xs z Q s r hz k => by
  match ds, r, hz with
  | [], r, hz => cases hz
  | d :: _ :: _, r, hz => cases d <;> cases hz
  | [d], ⟨v, t, e, r1, e2⟩, hz =>
    have e2' : t = [] := e2
    subst e e2'
    cases d with
    | lst es =>
      cases hz
      obtain ⟨a, xs, rfl, h, q⟩ := rdb_lst s r1
      exact ⟨a, xs, rfl, .inl ⟨.of h, fun l hl => k _ _ _ (Ext.new s hl) (rep_tup upd_same (reps_mono (Ext.new (o := .tup xs) s hl).b _ _ q))⟩⟩
    | fls es =>
      cases hz
      obtain ⟨a, xs, rfl, h, q⟩ := rdb_fls s r1
      exact ⟨a, xs, rfl, .inl ⟨h, fun l hl => k _ _ _ (Ext.new s hl) (rep_tup upd_same (reps_mono (Ext.new (o := .tup xs) s hl).b _ _ q))⟩⟩
    | tup es =>
      cases hz
      obtain ⟨a, xs, rfl, h, b, q⟩ := rdb_tup s r1
      exact ⟨a, xs, rfl, .inr ⟨.of h, k _ B H (Ext.refl s) (rep_tup b q)⟩⟩
    | ctp es =>
      cases hz
      rcases r1 with r1 | ⟨_, _, _, h3⟩
      · simp only [Rep] at r1
        obtain ⟨a, xs, rfl, h, q⟩ := r1
        exact ⟨a, xs, rfl, .inr ⟨sqt_mono s h, k _ B H (Ext.refl s) (by simp only [Rep]; exact ⟨a, xs, rfl, h, q⟩)⟩⟩
      · exact h3.elim
    | _ => cases hz
def gAbs : List D → Option D
  | [.int i] => some (.int (if i < 0 then -i else i))
  | _ => none
theorem rdbs1 {B H : Hp} {d : D} {xs : List V} (r : Rdbs G B H [d] xs) : ∃ v, xs = [v] ∧ Rdb G B H d v := by
  obtain ⟨v, t, e, r1, e2⟩ := r
  have e2' : t = [] := e2
  subst e e2'
  exact ⟨v, rfl, r1⟩
theorem rdbs2 {B H : Hp} {d e : D} {xs : List V} (r : Rdbs G B H [d, e] xs) : ∃ v w, xs = [v, w] ∧ Rdb G B H d v ∧ Rdb G B H e w := by
  obtain ⟨v, t, e, r1, v2, t2, e2, r2, e3⟩ := r
  have e3' : t2 = [] := e3
  subst e e2 e3'
  exact ⟨v, v2, rfl, r1, r2⟩
theorem ci_abs : CallI G (fun xs H Q => ∃ i, xs = [.int i] ∧ Q (.int (if i < 0 then -i else i)) H) gAbs := fun B H ds xs z Q s r hz k => by
  unfold gAbs at hz
  split at hz
  · cases hz
    obtain ⟨v, rfl, r1⟩ := rdbs1 r
    have v' := rdb_int r1
    subst v'
    exact ⟨_, rfl, k _ B H (Ext.refl s) rep_int⟩
  · cases hz
def gMax2 : List D → Option D
  | [.int i, .int j] => some (.int (if j > i then j else i))
  | _ => none
def gMin2 : List D → Option D
  | [.int i, .int j] => some (.int (if j < i then j else i))
  | _ => none
theorem ci_max2 : CallI G (fun xs H Q => ∃ i j, xs = [.int i, .int j] ∧ Q (.int (if j > i then j else i)) H) gMax2 := fun B H ds xs z Q s r hz k => by
  unfold gMax2 at hz
  split at hz
  · cases hz
    obtain ⟨v, w, rfl, r1, r2⟩ := rdbs2 r
    have v' := rdb_int r1
    have w' := rdb_int r2
    subst v' w'
    exact ⟨_, _, rfl, k _ B H (Ext.refl s) rep_int⟩
  · cases hz
theorem ci_min2 : CallI G (fun xs H Q => ∃ i j, xs = [.int i, .int j] ∧ Q (.int (if j < i then j else i)) H) gMin2 := fun B H ds xs z Q s r hz k => by
  unfold gMin2 at hz
  split at hz
  · cases hz
    obtain ⟨v, w, rfl, r1, r2⟩ := rdbs2 r
    have v' := rdb_int r1
    have w' := rdb_int r2
    subst v' w'
    exact ⟨_, _, rfl, k _ B H (Ext.refl s) rep_int⟩
  · cases hz
/-- all of one kind -/
def intsD : List D → Option (List Int)
  | [] => some []
  | .int i :: ds => (intsD ds).map fun r => i :: r
  | _ :: _ => none
def blsD : List D → Option (List Bool)
  | [] => some []
  | .bl i :: ds => (blsD ds).map fun r => i :: r
  | _ :: _ => none
theorem reps_ints {B : Hp} : ∀ {ds : List D} {vs : List V} {ns : List Int}, Reps G B ds vs → intsD ds = some ns → vs = ns.map V.int
  | [], vs, ns, r, h => by simp only [Reps] at r; cases h; subst r; rfl
  | d :: ds, vs, ns, r, h => by
    simp only [Reps] at r
    obtain ⟨v, t, e, r1, r2⟩ := r
    subst e
    cases d with
    | int i =>
      simp only [intsD] at h
      cases hm : intsD ds with
      | none => rw [hm] at h; cases h
      | some ms =>
        rw [hm] at h
        cases h
        simp only [Rep] at r1
        subst r1
        rw [reps_ints r2 hm]
        rfl
    | _ => cases h
theorem reps_bls {B : Hp} : ∀ {ds : List D} {vs : List V} {ns : List Bool}, Reps G B ds vs → blsD ds = some ns → vs = ns.map V.bl
  | [], vs, ns, r, h => by simp only [Reps] at r; cases h; subst r; rfl
  | d :: ds, vs, ns, r, h => by
    simp only [Reps] at r
    obtain ⟨v, t, e, r1, r2⟩ := r
    subst e
    cases d with
    | bl i =>
      simp only [blsD] at h
      cases hm : blsD ds with
      | none => rw [hm] at h; cases h
      | some ms =>
        rw [hm] at h
        cases h
        simp only [Rep] at r1
        subst r1
        rw [reps_bls r2 hm]
        rfl
    | _ => cases h
/-- a built-in of one list of intsD, of bools -/
theorem ci_seqI {r : List V → Hp → VK → Prop} {g : List Int → Option D} (hr : ∀ (B H : Hp) (a : Addr) (ns : List Int) (z : D) (Q : VK), g ns = some z → SqL G.K H a (ns.map V.int) → (∀ v, Rep G B z v → Q v H) → r [.ref a] H Q) :
    CallI G r (fun ds => match ds with | [.lst es] => (intsD es).bind g | _ => none) := fun B H ds xs z Q s rr hz k => by
  dsimp only at hz
  split at hz
  · rename_i es
    cases hi : intsD es with
    | none => rw [hi] at hz; cases hz
    | some ns =>
      rw [hi] at hz
      obtain ⟨v, rfl, r1⟩ := rdbs1 rr
      obtain ⟨a, vs, rfl, h, q⟩ := rdb_lst s r1
      have e := reps_ints q hi
      subst e
      exact hr B H a ns z Q hz (.of h) fun v r2 => k v B H (Ext.refl s) r2
  · cases hz
theorem ci_seqB {r : List V → Hp → VK → Prop} {g : List Bool → Option D} (hr : ∀ (B H : Hp) (a : Addr) (ns : List Bool) (z : D) (Q : VK), g ns = some z → SqL G.K H a (ns.map V.bl) → (∀ v, Rep G B z v → Q v H) → r [.ref a] H Q) :
    CallI G r (fun ds => match ds with | [.lst es] => (blsD es).bind g | _ => none) := fun B H ds xs z Q s rr hz k => by
  dsimp only at hz
  split at hz
  · rename_i es
    cases hi : blsD es with
    | none => rw [hi] at hz; cases hz
    | some ns =>
      rw [hi] at hz
      obtain ⟨v, rfl, r1⟩ := rdbs1 rr
      obtain ⟨a, vs, rfl, h, q⟩ := rdb_lst s r1
      have e := reps_bls q hi
      subst e
      exact hr B H a ns z Q hz (.of h) fun v r2 => k v B H (Ext.refl s) r2
  · cases hz
def gSum : List D → Option D := fun ds => match ds with | [.lst es] => (intsD es).bind fun ns => some (.int ns.sum) | _ => none
def gAll : List D → Option D := fun ds => match ds with | [.lst es] => (blsD es).bind fun ns => some (.bl (ns.all id)) | _ => none
def gAny : List D → Option D := fun ds => match ds with | [.lst es] => (blsD es).bind fun ns => some (.bl (ns.any id)) | _ => none
def gMax : List D → Option D := fun ds => match ds with | [.lst es] => (intsD es).bind fun ns => ns.max?.map fun m => .int m | _ => none
def gMin : List D → Option D := fun ds => match ds with | [.lst es] => (intsD es).bind fun ns => ns.min?.map fun m => .int m | _ => none
theorem ci_sum : CallI G (rSum G.K) gSum := ci_seqI fun B H a ns z Q hz h k => by cases hz; exact ⟨a, ns, rfl, h, k _ rep_int⟩
theorem ci_all : CallI G (rAll G.K) gAll := ci_seqB fun B H a ns z Q hz h k => by cases hz; exact ⟨a, ns, rfl, h, k _ rep_bl⟩
theorem ci_any : CallI G (rAny G.K) gAny := ci_seqB fun B H a ns z Q hz h k => by cases hz; exact ⟨a, ns, rfl, h, k _ rep_bl⟩
theorem ci_max : CallI G (rMax G.K) gMax := ci_seqI fun B H a ns z Q hz h k => by
  cases hm : ns.max? with
  | none => rw [hm] at hz; cases hz
  | some m =>
    rw [hm] at hz
    cases hz
    have hm' := List.max?_eq_some_iff.mp hm
    refine ⟨a, ns, rfl, h, ?_, fun m' h1 h2 => ?_⟩
    · cases ns with
      | nil => cases hm
      | cons _ _ => exact Nat.succ_pos _
    · have e : m' = m := Int.le_antisymm (hm'.2 m' h1) (h2 m hm'.1)
      subst e
      exact k _ rep_int
theorem ci_min : CallI G (rMin G.K) gMin := ci_seqI fun B H a ns z Q hz h k => by
  cases hm : ns.min? with
  | none => rw [hm] at hz; cases hz
  | some m =>
    rw [hm] at hz
    cases hz
    have hm' := List.min?_eq_some_iff.mp hm
    refine ⟨a, ns, rfl, h, ?_, fun m' h1 h2 => ?_⟩
    · cases ns with
      | nil => cases hm
      | cons _ _ => exact Nat.succ_pos _
    · have e : m' = m := Int.le_antisymm (h2 m hm'.1) (hm'.2 m' h1)
      subst e
      exact k _ rep_int
def gInt : List D → Option D
  | [.int i] => some (.int i)
  | [.bl k] => some (.int (if k then 1 else 0))
  | _ => none
theorem ci_int : CallI G (fun xs H Q => (∃ i, xs = [.int i] ∧ Q (.int i) H) ∨ ∃ k, xs = [.bl k] ∧ Q (.int (if k then 1 else 0)) H) gInt := fun B H ds xs z Q s r hz k => by
  unfold gInt at hz
  split at hz
  · cases hz
    obtain ⟨v, rfl, r1⟩ := rdbs1 r
    have v' := rdb_int r1
    subst v'
    exact .inl ⟨_, rfl, k _ B H (Ext.refl s) rep_int⟩
  · cases hz
    obtain ⟨v, rfl, r1⟩ := rdbs1 r
    have v' := rdb_bl r1
    subst v'
    exact .inr ⟨_, rfl, k _ B H (Ext.refl s) rep_int⟩
  · cases hz
def gStr : List D → Option D
  | [.int i] => if i.natAbs.log2 < 1920 then some (.str (toString i)) else none
  | _ => none
theorem ci_str : CallI G (fun xs H Q => ∃ i, xs = [.int i] ∧ i.natAbs.log2 < 1920 ∧ Q (.str (toString i)) H) gStr := fun B H ds xs z Q s r hz k => by
  unfold gStr at hz
  split at hz
  · split at hz
    · rename_i hl
      cases hz
      obtain ⟨v, rfl, r1⟩ := rdbs1 r
      have v' := rdb_int r1
      subst v'
      exact ⟨_, rfl, hl, k _ B H (Ext.refl s) rep_str⟩
    · cases hz
  · cases hz
end
/-! ### isinstance with a built-in type -/
def D.ty : D → Option String
  | .non => some "NoneType" | .bl _ => some "bool" | .int _ => some "int" | .str _ => some "str" | .lst _ => some "list" | .fls _ => some "list" | .tup _ => some "tuple" | .ctp _ => some "tuple" | .dic _ => some "dict" | .obj _ _ => none
end DL

namespace DL
open PySem PySem.Spec PyProof.Rows L2

/-! ### isinstance -/
def isiB (t T : String) : Bool := t == T || (t == "bool" && T == "int")
def eIsi (T : String) (f : Sto → M D) : Sto → M D := fun ρ => (f ρ).bind fun d => opt (d.ty.map fun t => .bl (isiB t T))
inductive TyY (K : PySem.W.Frag) (H : Hp) : V → Value → Prop where
  | base {x : V} {t : Value} (h : TyX K H x t) : TyY K H x t
  | fT {a : Addr} {o : Obj} {kvs : List (List Key × V)} (e : H a = some (.frz o (.dT kvs))) : TyY K H (.ref a) (.type "dict")
def rIsiY (K : PySem.W.Frag) : List V → Hp → VK → Prop := fun xs H Q => ∃ (x : V) (T : String) (t : Value) (b : Bool), xs = [x, .ty T] ∧ TyY K H x t ∧ PySem.W.kitOne K t (.type T) = some b ∧ Q (.bl b) H
section
variable {X : Cx} {G : Gd} {B H : Hp}
theorem call_isiY : CallR X (.builtin "isinstance") (rIsiY X.K) := by
  intro pins s σ H xs us Q I r h
  obtain ⟨x, T, t, b, rfl, ty, e, q⟩ := h
  cases ty with
  | base ty => exact call_isi pins s σ H _ us Q I r ⟨x, .ty T, t, .type T, b, rfl, .ty T, ty, e, q⟩
  | @fT a ob kvs ea =>
    obtain ⟨u1, u2, rfl, r1, r2⟩ := vals2 r
    cases (show u1 = Value.ref a from r1)
    cases (show u2 = Value.type T from r2)
    obtain ⟨_, _, _, xs, _, o, es, ep, h1, h2, _⟩ := (show ObjOk X.prog X.w H s.heap a (.frz ob (.dT kvs)) from I.hok a _ ea)
    exact PySem.W.kia_one PySem.W.kitx_dict I.kIn ⟨o, h1, h2.1⟩ e (fun z => nomatch z) fun tk => ⟨.bl b, H, I.tok tk, rfl, q⟩
theorem rdb_ty (s : Same B H) {d : D} {v : V} {t : String} (r : Rdb G B H d v) (ht : d.ty = some t) : TyY G.K H v (.type t) := by
  have frz : ∀ {a : Addr} {xs : List V}, SqL G.K H a xs → TyX G.K H (.ref a) (.type "list") := fun {a xs} h => by
    rcases h with (h | ⟨o, h⟩) | ⟨o, its, n, hk, hc, _⟩
    · exact .base (.lst h)
    · exact .base (.frz h)
    · exact .kList hk hc
  have frt : ∀ {a : Addr} {xs : List V}, SqT G.K H a xs → TyX G.K H (.ref a) (.type "tuple") := fun {a xs} h => by
    rcases h with (h | ⟨o, h⟩) | ⟨o, its, n, hk, hc, _⟩
    · exact .base (.tup h)
    · exact .fTuple h
    · exact .kTuple hk hc
  cases d with
  | non => cases ht; rw [rdb_non r]; exact .base (.base .non)
  | bl b => cases ht; rw [rdb_bl r]; exact .base (.base (.bl b))
  | int b => cases ht; rw [rdb_int r]; exact .base (.base (.int b))
  | str b => cases ht; rw [rdb_str r]; exact .base (.base (.str b))
  | lst ds => cases ht; obtain ⟨a, xs, rfl, h, _⟩ := rdb_lst s r; exact .base (.base (.lst h))
  | fls ds => cases ht; obtain ⟨a, xs, rfl, h, _⟩ := rdb_fls s r; exact .base (frz h)
  | tup ds => cases ht; obtain ⟨a, xs, rfl, h, _⟩ := rdb_tup s r; exact .base (.base (.tup h))
  | ctp ds => cases ht; obtain ⟨a, xs, rfl, h, _⟩ := rdb_ctp s r; exact .base (frt h)
  | dic kvs =>
    cases ht
    rcases r with r | ⟨p, rfl, _, h⟩
    · simp only [Rep] at r
      obtain ⟨a, rfl, ⟨t, h, _⟩ | ⟨t, h, _⟩⟩ := r
      · rcases h with h | ⟨o, h⟩
        · exact .base (.base (.dT (s _ _ h)))
        · exact .fT (s _ _ h)
      · rcases h with h | ⟨o, h⟩
        · exact .base (.base (.dK (s _ _ h)))
        · exact .base (.fDict (s _ _ h))
    · rcases h with ⟨t, h, _⟩ | ⟨t, h, _⟩
      · exact .base (.base (.dT h))
      · exact .base (.base (.dK h))
  | obj c fs => cases ht
theorem ty_cases {d : D} {t : String} (h : d.ty = some t) : t ∈ ["NoneType", "bool", "int", "str", "list", "tuple", "dict"] := by
  cases d <;> cases h <;> decide
theorem kit_all {t T : String} (h1 : t ∈ ["NoneType", "bool", "int", "str", "list", "tuple", "dict"]) (h2 : T ∈ ["bool", "int", "str", "list", "tuple"]) : kitB t T = some (isiB t T) := by
  have all : (["NoneType", "bool", "int", "str", "list", "tuple", "dict"].all fun t => ["bool", "int", "str", "list", "tuple"].all fun T => kitB t T == some (isiB t T)) = true := by decide +kernel
  rw [List.all_eq_true] at all
  have a1 := all t h1
  rw [List.all_eq_true] at a1
  exact beq_iff_eq.mp (a1 T h2)
variable {W : WX} {e : Expr} {f : Sto → M D} {x : Str} {p p2 pos : Pos} {T : String}
theorem de_isi (hT : T ∈ ["bool", "int", "str", "list", "tuple"]) (hm : X.mg "isinstance" = none) (hmT : X.mg x = none) (hvT : bootBuiltins x = some (.type T)) (he : PE X e (TR (gd X) W f)) (hg : Gl X "isinstance" := by rfl) (hgT : Gl X x := by rfl) (hnT : x ≠ "__name__" := by decide) (hdT : (x == ("__debug__" : Str)) = false := by decide)
    (hs1 : starEach (e :: [.Name x p2]) X.env = (false, eval e X.env) :: starEach [.Name x p2] X.env := by rfl) (hs2 : starEach (.Name x p2 :: []) X.env = (false, eval (.Name x p2) X.env) :: starEach [] X.env := by rfl) (hpl : (backTo pos (starEach [.Name x p2] X.env)).any (·.1) = false := by rfl) :
    PE X (.Call (.Name "isinstance" p) [e, .Name x p2] [] pos) (TD (gd X) W (eIsi T f)) :=
  (pe_callB (r := rIsiY X.K) call_isiY hg hm (by decide +kernel) (pa_cons he (pa_cons (pe_bltn (v := .ty T) hgT hmT hvT rfl hnT hdT) pa_nil hs2) hs1) (by decide) (by decide) hs1 hpl).wk fun σ H Q ⟨B0, H0, B, ρ, S, q⟩ => by
    unfold eIsi at q
    refine tr_i S (fun er h => by rw [h] at q; exact q) fun v H1 B1 d x1 r e1 => ?_
    rw [e1] at q
    have q' : DPost (gd X) W B H σ Q (opt (d.ty.map fun t => .bl (isiB t T))) := q
    cases ht : d.ty with
    | none => rw [ht] at q'; exact q'.elim
    | some t =>
      rw [ht] at q'
      exact ⟨v, T, .type t, isiB t T, rfl, rdb_ty x1.i' r ht, kit_ty (kit_all (ty_cases ht) hT), q' _ B1 H1 x1 rep_bl⟩
end

/-! ### calls of the text's own defs -/
def spD (G : Gd) (n : Nat) (m : List D → M D) : Sp := fun vs H Q E => ∃ B ds, ds.length = n ∧ Same B H ∧ Reps G B ds vs ∧ DPost G (fun cls d _ H' => E cls d H') B H [] Q (m ds)
structure FnD (P : Program) (w : World) (K : PySem.W.Frag) (mg : Str → Option Value) (base : Heap) (k : Nat) (x : Str) (n : Nat) (m : List D → M D) : Prop where
  ex : ∃ f fd ps, FnOk P w K mg base (L2.CX P w) k f fd ps (spD ⟨K, mg⟩ n m) ∧ mg x = some (.ref f) ∧ PySem.W.keepIn K (.ref f) = true ∧ Binds K fd ps []
def LenA (f : Sto → M (List D)) (n : Nat) : Prop := ∀ ρ ds, f ρ = .ok ds → ds.length = n
theorem len_nil : LenA aNil 0 := fun ρ ds h => by cases h; rfl
theorem len_cons {f : Sto → M D} {g : Sto → M (List D)} {n : Nat} (h : LenA g n) : LenA (aCons f g) (n + 1) := fun ρ ds e => by
  unfold aCons at e
  cases hf : f ρ with
  | error er => rw [hf] at e; cases e
  | ok d =>
    rw [hf] at e
    have e' : ((g ρ).bind fun ds => Except.ok (d :: ds)) = Except.ok ds := e
    cases hg : g ρ with
    | error er => rw [hg] at e'; cases e'
    | ok r =>
      rw [hg] at e'
      cases e'
      rw [List.length_cons, h ρ r hg]
def eFn (m : List D → M D) (f : Sto → M (List D)) : Sto → M D := fun ρ => (f ρ).bind m
section
variable {X : Cx} {W : WX} {x : Str} {p pos : Pos} {e : Expr} {es : List Expr} {f : Sto → M (List D)} {k n : Nat} {m : List D → M D}
theorem de_fn (F : FnD X.prog X.w X.K X.mg X.base k x n m) (hr : Room k X.A) (tk : Takes X W) (ha : PA X (e :: es) (TAD (gd X) W f)) (hl : LenA f n := by repeat (first | exact len_nil | refine len_cons ?_)) (hg : Gl X x := by rfl) (hdb : (x == ("__debug__" : Str)) = false := by decide)
    (he : starEach (e :: es) X.env = (false, eval e X.env) :: starEach es X.env := by rfl) (hpl : (backTo pos (starEach es X.env)).any (·.1) = false := by rfl) :
    PE X (.Call (.Name x p) (e :: es) [] pos) (TD (gd X) W (eFn m f)) := by
  obtain ⟨fa, fd, ps, F, hm, hk, hb⟩ := F.ex
  refine ⟨fun pins s σ H Q I ⟨B0, H0, B, ρ, S, q⟩ => ?_⟩
  unfold eFn at q
  refine wpAny_Call_Name_kw (ld_glob I hg hm ?_ hdb)
  refine PySem.W.callWith_K (h₀ := X.base) I.ok.mod.kin hk (thn (ha.run pos pins s σ H (fun vs H1 => ∃ B1 ds, Ext B H B1 H1 ∧ Reps (gd X) B1 ds vs ∧ f ρ = .ok ds) I (tad_i S (fun er h => by rw [h] at q; exact q) fun vs H1 B1 ds x r e => ⟨B1, ds, x, r, e⟩)) fun us s1 ⟨vs, H1, I1, r, B1, ds, x, rr, e1⟩ => ⟨I1.kIn, ?_⟩) he hpl
  rw [e1] at q
  have q' : DPost (gd X) W B H σ Q (m ds) := q
  refine run_fnS F hr hb (passAt tk σ) I1 r ⟨B1, ds, ?_, x.i', rr, ?_⟩
  · exact hl ρ ds e1
  · cases hm : m ds with
    | ok d => rw [hm] at q'; exact fun v B' H' x2 r2 => q' v B' H' (x.trans x2) r2
    | error er =>
      rw [hm] at q'
      have q2 := ErOk.mono q' x
      cases er with
      | stuck => exact q2
      | exc c a => exact q2
end
end DL

namespace DL
open PySem PySem.Spec PyProof.Rows L2

/-! ### the store changes -/
section
variable {G : Gd} {B0 H0 B H : Hp} {σ : L2.St} {ρ : Sto} {v : V} {d : D} {p : Addr}
theorem StOk.set_sh (S : StOk G B0 H0 B H σ ρ) (r : Rep G B d v) (i : Nat) : StOk G B0 H0 B H (σ.set i (some v)) (ρ.set i (some (.sh d))) := by
  refine ⟨S.ext, by rw [List.length_set, List.length_set, S.len], fun j e h => ?_, fun j e h => ?_, fun j k e e' q h1 h2 h3 h4 => ?_⟩
  · by_cases hj : i = j
    · subst hj
      by_cases hl : i < ρ.length
      · rw [List.getElem?_set_self hl] at h
        cases h
        exact ⟨v, List.getElem?_set_self (by rw [S.len]; exact hl), r⟩
      · rw [List.getElem?_eq_none (by rw [List.length_set]; omega)] at h; cases h
    · rw [List.getElem?_set_ne hj] at h ⊢
      exact S.sh j e h
  · by_cases hj : i = j
    · subst hj
      by_cases hl : i < ρ.length
      · rw [List.getElem?_set_self hl] at h; cases h
      · rw [List.getElem?_eq_none (by rw [List.length_set]; omega)] at h; cases h
    · rw [List.getElem?_set_ne hj] at h ⊢
      exact S.ow j e h
  · have nj : ∀ {j : Nat} {e : D}, (ρ.set i (some (Sl.sh d)))[j]? = some (some (Sl.ow e)) → i ≠ j := fun {j e} h hj => by
      subst hj
      by_cases hl : i < ρ.length
      · rw [List.getElem?_set_self hl] at h; cases h
      · rw [List.getElem?_eq_none (by rw [List.length_set]; omega)] at h; cases h
    have a := nj h1
    have b := nj h2
    rw [List.getElem?_set_ne a] at h1 h3
    rw [List.getElem?_set_ne b] at h2 h4
    exact S.ap j k e e' q h1 h2 h3 h4
theorem StOk.set_ow (S : StOk G B0 H0 B H σ ρ) (h1 : H0 p = none) (h2 : B p = none) (h3 : OwAt G B H p d) (hf : ∀ (j : Nat) (e : D), ρ[j]? = some (some (Sl.ow e)) → σ[j]? ≠ some (some (V.ref p))) (i : Nat) : StOk G B0 H0 B H (σ.set i (some (.ref p))) (ρ.set i (some (.ow d))) := by
  have get : ∀ {j : Nat} {e : D}, (ρ.set i (some (Sl.ow d)))[j]? = some (some (Sl.ow e)) → (i = j ∧ i < ρ.length ∧ e = d) ∨ (i ≠ j ∧ ρ[j]? = some (some (Sl.ow e))) := fun {j e} h => by
    by_cases hj : i = j
    · subst hj
      by_cases hl : i < ρ.length
      · rw [List.getElem?_set_self hl] at h
        cases h
        exact .inl ⟨rfl, hl, rfl⟩
      · rw [List.getElem?_eq_none (by rw [List.length_set]; omega)] at h; cases h
    · rw [List.getElem?_set_ne hj] at h
      exact .inr ⟨hj, h⟩
  refine ⟨S.ext, by rw [List.length_set, List.length_set, S.len], fun j e h => ?_, fun j e h => ?_, fun j k e e' q g1 g2 g3 g4 => ?_⟩
  · by_cases hj : i = j
    · subst hj
      by_cases hl : i < ρ.length
      · rw [List.getElem?_set_self hl] at h; cases h
      · rw [List.getElem?_eq_none (by rw [List.length_set]; omega)] at h; cases h
    · rw [List.getElem?_set_ne hj] at h ⊢
      exact S.sh j e h
  · rcases get h with ⟨rfl, hl, rfl⟩ | ⟨hj, h'⟩
    · exact ⟨p, List.getElem?_set_self (by rw [S.len]; exact hl), h1, h2, h3⟩
    · rw [List.getElem?_set_ne hj]
      exact S.ow j e h'
  · rcases get g1 with ⟨rfl, hl, rfl⟩ | ⟨hj, h'⟩
    · rcases get g2 with ⟨rfl, _, _⟩ | ⟨hk, h''⟩
      · rfl
      · rw [List.getElem?_set_self (by rw [S.len]; exact hl)] at g3
        cases g3
        rw [List.getElem?_set_ne hk] at g4
        exact (hf k e' h'' g4).elim
    · rcases get g2 with ⟨rfl, hl, _⟩ | ⟨hk, h''⟩
      · rw [List.getElem?_set_self (by rw [S.len]; exact hl)] at g4
        cases g4
        rw [List.getElem?_set_ne hj] at g3
        exact (hf j e h' g3).elim
      · rw [List.getElem?_set_ne hj] at g3
        rw [List.getElem?_set_ne hk] at g4
        exact S.ap j k e e' q h' h'' g3 g4
/-- what is new is nobody's own -/
theorem StOk.fresh_ow {B' H' : Hp} (S : StOk G B0 H0 B H σ ρ) (hp : H p = none) : ∀ (j : Nat) (e : D), ρ[j]? = some (some (Sl.ow e)) → σ[j]? ≠ some (some (V.ref p)) := fun j e h z => by
  obtain ⟨q, h1, _, _, h4⟩ := S.ow j e h
  obtain ⟨o, ho⟩ := h4.get
  rw [z] at h1
  cases h1
  rw [hp] at ho; cases ho
/-- the thing of slot i changes -/
theorem StOk.upd_ow {o : HO} {i : Nat} {d' : D} (S : StOk G B0 H0 B H σ ρ) (hi : ρ[i]? = some (some (Sl.ow d))) (hs : σ[i]? = some (some (V.ref p))) (new : OwAt G B (upd H p o) p d') : StOk G B0 H0 B (upd H p o) σ (ρ.set i (some (.ow d'))) := by
  obtain ⟨p', h1, h2, h3, h4⟩ := S.ow i d hi
  rw [hs] at h1
  cases h1
  have hl : i < ρ.length := (List.getElem?_eq_some_iff.mp hi).1
  refine ⟨⟨S.ext.i, S.ext.b, fun a u e => ?_, fun a u e => ?_, S.ext.n⟩, by rw [List.length_set, S.len], fun j e h => ?_, fun j e h => ?_, fun j k e e' q g1 g2 g3 g4 => ?_⟩
  · rw [upd_ne (ne_of_none e h3)]; exact S.ext.i' a u e
  · rw [upd_ne (ne_of_none e h2)]; exact S.ext.h a u e
  · have hj : i ≠ j := fun hj => by subst hj; rw [List.getElem?_set_self hl] at h; cases h
    rw [List.getElem?_set_ne hj] at h
    exact S.sh j e h
  · by_cases hj : i = j
    · subst hj
      rw [List.getElem?_set_self hl] at h
      cases h
      exact ⟨p, hs, h2, h3, new⟩
    · rw [List.getElem?_set_ne hj] at h
      obtain ⟨q, g1, g2, g3, g4⟩ := S.ow j e h
      have hq : q ≠ p := fun z => by subst z; exact hj (S.ap i j d e q hi h hs g1)
      exact ⟨q, g1, g2, g3, g4.mono (Same.refl _) fun u e' => by rw [upd_ne hq]; exact e'⟩
  · have get : ∀ {j : Nat} {e : D}, (ρ.set i (some (Sl.ow d')))[j]? = some (some (Sl.ow e)) → ∃ e0, ρ[j]? = some (some (Sl.ow e0)) := fun {j e} h => by
      by_cases hj : i = j
      · subst hj; exact ⟨d, hi⟩
      · rw [List.getElem?_set_ne hj] at h; exact ⟨e, h⟩
    obtain ⟨e1, k1⟩ := get g1
    obtain ⟨e2, k2⟩ := get g2
    exact S.ap j k e1 e2 q k1 k2 g3 g4
/-- the thing of slot i is shown from now on -/
theorem StOk.freeze {i : Nat} (S : StOk G B0 H0 B H σ ρ) (hi : ρ[i]? = some (some (Sl.ow d))) : ∃ B', StOk G B0 H0 B' H σ (ρ.set i (some (.sh d))) ∧ Same B B' := by
  obtain ⟨p, h1, h2, h3, h4⟩ := S.ow i d hi
  have hl : i < ρ.length := (List.getElem?_eq_some_iff.mp hi).1
  obtain ⟨o, ho, hr⟩ : ∃ o, H p = some o ∧ Rep G (upd B p o) d (.ref p) := by
    cases d with
    | lst ds => obtain ⟨xs, q, r⟩ := h4; exact ⟨_, q, rep_lst upd_same (reps_mono (same_upd h3) _ _ r)⟩
    | dic kvs =>
      rcases h4 with ⟨t, q, r⟩ | ⟨t, q, r⟩
      · exact ⟨_, q, by simp only [Rep]; exact ⟨p, rfl, .inl ⟨t, .inl upd_same, rept_mono (same_upd h3) _ _ r⟩⟩⟩
      · exact ⟨_, q, by simp only [Rep]; exact ⟨p, rfl, .inr ⟨t, .inl upd_same, repk_mono (same_upd h3) _ _ r⟩⟩⟩
    | _ => exact h4.elim
  have sm : Same B (upd B p o) := same_upd h3
  refine ⟨upd B p o, ⟨⟨S.ext.i, S.ext.b.trans sm, fun a u e => ?_, S.ext.h, fun a ha => ?_⟩, by rw [List.length_set, S.len], fun j e h => ?_, fun j e h => ?_, fun j k e e' q g1 g2 g3 g4 => ?_⟩, sm⟩
  · by_cases z : a = p
    · subst z; rw [upd_same] at e; rw [← e]; exact ho
    · rw [upd_ne z] at e; exact S.ext.i' a u e
  · rw [upd_ne fun z => ha (by rw [z]; exact h2)]; exact S.ext.n a ha
  · by_cases hj : i = j
    · subst hj
      rw [List.getElem?_set_self hl] at h
      cases h
      exact ⟨_, h1, hr⟩
    · rw [List.getElem?_set_ne hj] at h
      obtain ⟨w, g1, g2⟩ := S.sh j e h
      exact ⟨w, g1, rep_mono sm _ _ g2⟩
  · have hj : i ≠ j := fun hj => by subst hj; rw [List.getElem?_set_self hl] at h; cases h
    rw [List.getElem?_set_ne hj] at h
    obtain ⟨q, g1, g2, g3, g4⟩ := S.ow j e h
    have hq : q ≠ p := fun z => by subst z; exact hj (S.ap i j d e q hi h h1 g1)
    exact ⟨q, g1, g2, by rw [upd_ne hq]; exact g3, g4.mono sm fun u e' => e'⟩
  · have get : ∀ {j : Nat} {e : D}, (ρ.set i (some (Sl.sh d)))[j]? = some (some (Sl.ow e)) → ρ[j]? = some (some (Sl.ow e)) := fun {j e} h => by
      by_cases hj : i = j
      · subst hj; rw [List.getElem?_set_self hl] at h; cases h
      · rw [List.getElem?_set_ne hj] at h; exact h
    exact S.ap j k e e' q (get g1) (get g2) g3 g4
/-- a slot is forgotten -/
theorem StOk.forget (S : StOk G B0 H0 B H σ ρ) (i : Nat) : StOk G B0 H0 B H (σ.set i none) (ρ.set i none) := by
  have get : ∀ {j : Nat} {s : Sl}, (ρ.set i none)[j]? = some (some s) → i ≠ j ∧ ρ[j]? = some (some s) := fun {j e} h => by
    by_cases hj : i = j
    · subst hj
      by_cases hl : i < ρ.length
      · rw [List.getElem?_set_self hl] at h; cases h
      · rw [List.getElem?_eq_none (by rw [List.length_set]; omega)] at h; cases h
    · rw [List.getElem?_set_ne hj] at h
      exact ⟨hj, h⟩
  refine ⟨S.ext, by rw [List.length_set, List.length_set, S.len], fun j e h => ?_, fun j e h => ?_, fun j k e e' q g1 g2 g3 g4 => ?_⟩
  · obtain ⟨hj, h'⟩ := get h
    rw [List.getElem?_set_ne hj]; exact S.sh j e h'
  · obtain ⟨hj, h'⟩ := get h
    rw [List.getElem?_set_ne hj]; exact S.ow j e h'
  · obtain ⟨hj, h'⟩ := get g1
    obtain ⟨hk, h''⟩ := get g2
    rw [List.getElem?_set_ne hj] at g3
    rw [List.getElem?_set_ne hk] at g4
    exact S.ap j k e e' q h' h'' g3 g4
def wipeS (ρ : Sto) : List Nat → Sto
  | [] => ρ
  | v :: vs => (wipeS ρ vs).set v none
theorem StOk.wipe (S : StOk G B0 H0 B H σ ρ) : ∀ vs : List Nat, StOk G B0 H0 B H (L2.wipe σ vs) (wipeS ρ vs)
  | [] => S
  | v :: vs => (S.wipe vs).forget v
/-- the ground is laid anew: what is seen now -/
def over (B H0 : Hp) : Hp := fun a => match B a with | some o => some o | none => H0 a
theorem over_none {B H0 : Hp} {a : Addr} : over B H0 a = none ↔ B a = none ∧ H0 a = none := by
  unfold over
  cases B a with
  | none => simp
  | some o => simp
theorem StOk.rebase (S : StOk G B0 H0 B H σ ρ) : StOk G B (over B H0) B H σ ρ := by
  refine ⟨⟨fun a u e => ?_, Same.refl _, S.ext.i', fun a u e => ?_, fun _ _ => rfl⟩, S.len, S.sh, fun i e h => ?_, S.ap⟩
  · unfold over; rw [e]
  · unfold over at e
    cases hb : B a with
    | some o => rw [hb] at e; cases e; exact S.ext.i' a _ hb
    | none => rw [hb] at e; exact S.ext.h a u e
  · obtain ⟨p, h1, h2, h3, h4⟩ := S.ow i e h
    exact ⟨p, h1, over_none.mpr ⟨h3, h2⟩, h3, h4⟩
theorem Ext.unbase {B1 H1 : Hp} (x : Ext B0 H0 B H) (y : Ext B (over B H0) B1 H1) : Ext B0 H0 B1 H1 := by
  refine ⟨x.i, x.b.trans y.b, y.i', fun a u e => ?_, fun a ha => ?_⟩
  · refine y.h a u ?_
    unfold over
    cases hb : B a with
    | some o =>
      have h1 := x.i' a o hb
      have h2 := x.h a u e
      rw [h1] at h2
      cases h2; rfl
    | none => exact e
  · rw [y.n a (fun z => ha (over_none.mp z).2), x.n a ha]
theorem StOk.unbase {B1 H1 : Hp} {σ1 : L2.St} {ρ1 : Sto} (x : Ext B0 H0 B H) (S : StOk G B (over B H0) B1 H1 σ1 ρ1) : StOk G B0 H0 B1 H1 σ1 ρ1 :=
  ⟨x.unbase S.ext, S.len, S.sh, fun i e h => by
    obtain ⟨p, h1, h2, h3, h4⟩ := S.ow i e h
    exact ⟨p, h1, (over_none.mp h2).2, h3, h4⟩, S.ap⟩
theorem RtOk.unbase {Q : VK} {s : Sl} (x : Ext B0 H0 B H) (r : RtOk G B0 H0 Q s) : RtOk G B (over B H0) Q s := by
  cases s with
  | sh d => exact fun v B' H' y q => r v B' H' (x.unbase y) q
  | ow d => exact fun p B' H' y h1 h2 h3 => r p B' H' (x.unbase y) (over_none.mp h1).2 h2 h3
theorem SPost.rebase {W : WX} {Dn : Ends} {r : Res} (x : Ext B0 H0 B H) (q : SPost G W B0 H0 Dn r) : SPost G W B (over B H0) Dn r := by
  cases r with
  | nx ρ => exact fun σ B1 H1 S => q σ B1 H1 (S.unbase x)
  | rt s => exact RtOk.unbase x q
  | bk ρ => exact fun σ B1 H1 S => q σ B1 H1 (S.unbase x)
  | ct ρ => exact fun σ B1 H1 S => q σ B1 H1 (S.unbase x)
  | er e ρ => exact fun σ B1 H1 S => q σ B1 H1 (S.unbase x)
end

/-! ### statements -/
def sSeq (g h : Sto → Res) : Sto → Res := fun ρ => match g ρ with
  | .nx ρ' => h ρ'
  | r => r
def sNil : Sto → Res := fun ρ => .nx ρ
def sSet (i : Nat) (f : Sto → M D) : Sto → Res := fun ρ => match f ρ with
  | .ok d => .nx (ρ.set i (some (.sh d)))
  | .error e => .er e ρ
def sSetF (i : Nat) (f : Sto → M D) : Sto → Res := fun ρ => match f ρ with
  | .ok d => .nx (ρ.set i (some (.ow d)))
  | .error e => .er e ρ
def sExpr (f : Sto → M D) : Sto → Res := fun ρ => match f ρ with
  | .ok _ => .nx ρ
  | .error e => .er e ρ
def sRet (f : Sto → M D) : Sto → Res := fun ρ => match f ρ with
  | .ok d => .rt (.sh d)
  | .error e => .er e ρ
def sRetF (f : Sto → M D) : Sto → Res := fun ρ => match f ρ with
  | .ok d => .rt (.ow d)
  | .error e => .er e ρ
def sRetO (i : Nat) : Sto → Res := fun ρ => match ρ[i]? with
  | some (some s) => .rt s
  | _ => .er .stuck ρ
def sRetN : Sto → Res := fun _ => .rt (.sh .non)
def sIf (c : Sto → M Bool) (g h : Sto → Res) : Sto → Res := fun ρ => match c ρ with
  | .ok true => g ρ
  | .ok false => h ρ
  | .error e => .er e ρ
def sBreak : Sto → Res := fun ρ => .bk ρ
def sCont : Sto → Res := fun ρ => .ct ρ
def sRaise (c : EC) (a : Option Int) : Sto → Res := fun ρ => .er (.exc c a) ρ
def wl (c : Sto → M Bool) (g : Sto → Res) : Nat → Sto → Res
  | 0, ρ => .er .stuck ρ
  | n + 1, ρ => match c ρ with
    | .error e => .er e ρ
    | .ok false => .nx ρ
    | .ok true => match g ρ with
      | .nx ρ' => wl c g n ρ'
      | .ct ρ' => wl c g n ρ'
      | .bk ρ' => .nx ρ'
      | r => r
def sWhile (μ : Sto → Nat) (c : Sto → M Bool) (g : Sto → Res) : Sto → Res := fun ρ => wl c g (μ ρ) ρ
def fl (b : D → Sto → Option Sto) (g : Sto → Res) : List D → Sto → Res
  | [], ρ => .nx ρ
  | x :: xs, ρ => match b x ρ with
    | none => .er .stuck ρ
    | some ρ1 => match g ρ1 with
      | .nx ρ' => fl b g xs ρ'
      | .ct ρ' => fl b g xs ρ'
      | .bk ρ' => .nx ρ'
      | r => r
def sFor (f : Sto → M (List D)) (b : D → Sto → Option Sto) (g : Sto → Res) : Sto → Res := fun ρ => match f ρ with
  | .ok ds => fl b g ds ρ
  | .error e => .er e ρ
section
variable {X : Cx} {W : WX} {st : Stmt} {rest : List Stmt} {g h : Sto → Res} {f : Sto → M D} {c : Sto → M Bool} {e : Expr} {pos : Pos} {i : Nat} {x : Str}
theorem ss_nil : PSs X [] (TSD (gd X) W sNil) := pss_nil.wk fun Dn σ H ⟨B0, H0, B, ρ, S, q⟩ => q σ B H S
theorem ss_one (h1 : PS X st (TSD (gd X) W g)) : PSs X [st] (TSD (gd X) W g) := pss_one h1
theorem ss_cons (h1 : PS X st (TSD (gd X) W g)) (h2 : PSs X rest (TSD (gd X) W h)) : PSs X (st :: rest) (TSD (gd X) W (sSeq g h)) := (pss_cons h1 h2).wk fun Dn σ H ⟨B0, H0, B, ρ, S, q⟩ => by
  refine ⟨B0, H0, B, ρ, S, ?_⟩
  unfold sSeq at q
  cases hr : g ρ with
  | nx ρ' =>
    rw [hr] at q
    exact fun σ' B' H' S' => ⟨B0, H0, B', ρ', S', q⟩
  | rt s => rw [hr] at q; exact q
  | bk ρ' => rw [hr] at q; exact q
  | ct ρ' => rw [hr] at q; exact q
  | er er ρ' => rw [hr] at q; exact q
theorem ds_pass : PS X (.Pass pos) (TSD (gd X) W sNil) := ps_pass.wk fun Dn σ H ⟨B0, H0, B, ρ, S, q⟩ => q σ B H S
theorem ds_doc {y : Str} {j pos'} : PS X (.Expr (.Constant (.str y) j pos) pos') (TSD (gd X) W sNil) := ps_doc.wk fun Dn σ H ⟨B0, H0, B, ρ, S, q⟩ => q σ B H S
theorem ds_break : PS X (.Break pos) (TSD (gd X) W sBreak) := ps_break.wk fun Dn σ H ⟨B0, H0, B, ρ, S, q⟩ => q σ B H S
theorem ds_cont : PS X (.Continue pos) (TSD (gd X) W sCont) := ps_continue.wk fun Dn σ H ⟨B0, H0, B, ρ, S, q⟩ => q σ B H S
theorem ds_set (i : Nat) {pos' : Pos} (hN : X.N.Nodup) (he : PE X e (TD (gd X) W f)) (hi : X.N[i]? = some x := by rfl) (hx : Loc X.env.scope x := by first | exact Or.inl rfl | exact Or.inr rfl) (hs : swapsWith e (some (.Name x pos')) pos.line X.env = pure false := by rfl) (hf : X.fn x = true ∨ X.env.scope.names.lookup x = some .local := by first | exact .inl rfl | exact .inr rfl) :
    PS X (.Assign [.Name x pos'] e pos) (TSD (gd X) W (sSet i f)) := (ps_set hN hi hx he hs hf).wk fun Dn σ H ⟨B0, H0, B, ρ, S, q⟩ => by
  unfold sSet at q
  refine td_i S (fun er h => by rw [h] at q; exact q σ B H S) fun v H1 B1 d x r e => ?_
  rw [e] at q
  exact q _ B1 H1 ((S.mono x).set_sh r i)
theorem setF_ok {G : Gd} {Dn : Ends} {B0 H0 B H : Hp} {σ : L2.St} {ρ : Sto} (S : StOk G B0 H0 B H σ ρ) (q : SPost G W B0 H0 Dn (sSetF i f ρ)) : TF G W f σ H fun v H' => gName i v σ H' Dn.nx := by
  unfold sSetF at q
  refine tf_i S (fun er h => by rw [h] at q; exact q σ B H S) fun p H1 B1 d x h1 h2 h3 e => ?_
  rw [e] at q
  exact q _ B1 H1 ((S.mono x).set_ow (S.ext.fresh h1) h2 h3 (fun j e' hj => S.fresh_ow (B' := B) (H' := H) h1 j e' hj) i)
theorem ds_setF (i : Nat) {pos' : Pos} (hN : X.N.Nodup) (he : PE X e (TF (gd X) W f)) (hi : X.N[i]? = some x := by rfl) (hx : Loc X.env.scope x := by first | exact Or.inl rfl | exact Or.inr rfl) (hs : swapsWith e (some (.Name x pos')) pos.line X.env = pure false := by rfl) (hf : X.fn x = true ∨ X.env.scope.names.lookup x = some .local := by first | exact .inl rfl | exact .inr rfl) :
    PS X (.Assign [.Name x pos'] e pos) (TSD (gd X) W (sSetF i f)) := (ps_set hN hi hx he hs hf).wk fun Dn σ H ⟨B0, H0, B, ρ, S, q⟩ => setF_ok S q
theorem ds_expr (he : PE X e (TD (gd X) W f)) (hs : swapsWith e none pos.line X.env = pure false := by rfl) : PS X (.Expr e pos) (TSD (gd X) W (sExpr f)) := (ps_expr he hs).wk fun Dn σ H ⟨B0, H0, B, ρ, S, q⟩ => by
  unfold sExpr at q
  refine td_i S (fun er h => by rw [h] at q; exact q σ B H S) fun v H1 B1 d x r e => ?_
  rw [e] at q
  exact q _ B1 H1 (S.mono x)
theorem ds_ret (he : PE X e (TD (gd X) W f)) : PS X (.Return (some e) pos) (TSD (gd X) W (sRet f)) := (ps_ret he).wk fun Dn σ H ⟨B0, H0, B, ρ, S, q⟩ => by
  unfold sRet at q
  refine td_i S (fun er h => by rw [h] at q; exact q σ B H S) fun v H1 B1 d x r e => ?_
  rw [e] at q
  exact q v B1 H1 (S.ext.trans x) r
theorem ds_retF (he : PE X e (TF (gd X) W f)) : PS X (.Return (some e) pos) (TSD (gd X) W (sRetF f)) := (ps_ret he).wk fun Dn σ H ⟨B0, H0, B, ρ, S, q⟩ => by
  unfold sRetF at q
  refine tf_i S (fun er h => by rw [h] at q; exact q σ B H S) fun p H1 B1 d x h1 h2 h3 e => ?_
  rw [e] at q
  exact q p B1 H1 (S.ext.trans x) (S.ext.fresh h1) h2 h3
theorem ds_retO (i : Nat) {pos' : Pos} (hN : X.N[i]? = some x := by rfl) (hv : Vis X.env.scope x := by first | exact Or.inl rfl | exact Or.inr (Or.inl rfl) | exact Or.inr (Or.inr rfl)) (hd : (x == ("__debug__" : Str)) = false := by decide)
    (hcd : (x == ("__classdict__" : Str)) = false := by decide) : PS X (.Return (some (.Name x pos')) pos) (TSD (gd X) W (sRetO i)) := (ps_ret (pe_var hN hv hd hcd)).wk fun Dn σ H ⟨B0, H0, B, ρ, S, q⟩ => by
  unfold sRetO at q
  cases hr : ρ[i]? with
  | none => rw [hr] at q; exact (q σ B H S).elim
  | some o =>
    cases o with
    | none => rw [hr] at q; exact (q σ B H S).elim
    | some sl =>
      rw [hr] at q
      cases sl with
      | sh d =>
        obtain ⟨v, h1, h2⟩ := S.sh i d hr
        exact ⟨v, h1, q v B H S.ext h2⟩
      | ow d =>
        obtain ⟨p, h1, h2, h3, h4⟩ := S.ow i d hr
        exact ⟨_, h1, q p B H S.ext h2 h3 h4⟩
theorem ds_retN : PS X (.Return none pos) (TSD (gd X) W sRetN) := ps_retN.wk fun Dn σ H ⟨B0, H0, B, ρ, S, q⟩ => q .non B H S.ext rep_non
theorem ds_if {t : Expr} {a b : List Stmt} (hc : PT X t (TB (gd X) W c)) (ha : PSs X a (TSD (gd X) W g)) (hb : PSs X b (TSD (gd X) W h)) : PS X (.If t a b pos) (TSD (gd X) W (sIf c g h)) := (ps_if hc ha hb).wk fun Dn σ H ⟨B0, H0, B, ρ, S, q⟩ => by
  unfold sIf at q
  refine tb_i S (fun er h => by rw [h] at q; exact q σ B H S) fun k H1 B1 x e => ?_
  rw [e] at q
  cases k with
  | true => exact ⟨B0, H0, B1, ρ, S.mono x, q⟩
  | false => exact ⟨B0, H0, B1, ρ, S.mono x, q⟩
theorem ds_while (μ : Sto → Nat) {t : Expr} {body : List Stmt} (hp : PassesOwn (model X.prog X.w) X.A X.env X.xe) (hc : PT X t (TB (gd X) W c)) (hb : PSs X body (TSD (gd X) W g)) : PS X (.While t body [] pos) (TSD (gd X) W (sWhile μ c g)) := (ps_while hp hc hb).wk fun Dn σ H ⟨B0, H0, B, ρ, S, q⟩ => by
  refine ⟨fun m σ H => ∃ B ρ, StOk (gd X) B0 H0 B H σ ρ ∧ SPost (gd X) W B0 H0 Dn (wl c g m ρ), ⟨μ ρ, B, ρ, S, q⟩, ?_⟩
  rintro m σ1 H1 ⟨B1, ρ1, S1, q1⟩
  cases m with
  | zero => exact (q1 σ1 B1 H1 S1).elim
  | succ n =>
    unfold wl at q1
    refine tb_i S1 (fun er h => by rw [h] at q1; exact q1 σ1 B1 H1 S1) fun k H2 B2 x e => ?_
    rw [e] at q1
    cases k with
    | false => exact q1 σ1 B2 H2 (S1.mono x)
    | true =>
      refine ⟨fun σ' H' => ∃ B' ρ', StOk (gd X) B0 H0 B' H' σ' ρ' ∧ SPost (gd X) W B0 H0 Dn (wl c g n ρ'), fun σ' H' h' => ⟨n, Nat.lt_succ_self n, h'⟩, B0, H0, B2, ρ1, S1.mono x, ?_⟩
      dsimp only at q1
      cases hr : g ρ1 with
      | nx ρ' => rw [hr] at q1; exact fun σ' B' H' S' => ⟨B', ρ', S', q1⟩
      | ct ρ' => rw [hr] at q1; exact fun σ' B' H' S' => ⟨B', ρ', S', q1⟩
      | bk ρ' => rw [hr] at q1; exact q1
      | rt s => rw [hr] at q1; exact q1
      | er er ρ' => rw [hr] at q1; exact q1
/-- raise C('..') -/
theorem ds_raise {cc : EC} {y : Expr} {C : Addr} (hc : X.calm = true) (tk : Takes X W) (hC : X.mg cc.name = some (.ref C)) (he : PMk X y (fun _ H Q => Q (.ref C) none H)) : PS X (.Raise (some y) none pos) (TSD (gd X) W (sRaise cc none)) := (ps_raise hc tk he).wk fun Dn σ H ⟨B0, H0, B, ρ, S, q⟩ => q σ B H S C none B H hC (Ext.refl S.ext.i') rfl
end

/-! ### what a for walks, its targets -/
structure DWalk (G : Gd) (B1 : Hp) (J : It) (ds : List D) : Prop where
  goes : ∀ i B H, i < ds.length → Same B1 B → Same B H → J.go i H
  stops : ∀ B H, Same B1 B → Same B H → J.stop ds.length H
  ylds : ∀ i B H x H', i < ds.length → Same B1 B → Same B H → J.yld i H x H' → ∃ B' d, Ext B H B' H' ∧ ds[i]? = some d ∧ Rep G B' d x
def IPost (G : Gd) (W : WX) (B H : Hp) (σ : L2.St) (R : It → Hp → Prop) : M (List D) → Prop
  | .ok ds => ∀ J B' H', Ext B H B' H' → DWalk G B' J ds → R J H'
  | .error e => ErOk G W B H σ e
def TID (G : Gd) (W : WX) (f : Sto → M (List D)) : TI := fun σ H R => ∃ B0 H0 B ρ, StOk G B0 H0 B H σ ρ ∧ IPost G W B H σ R (f ρ)
def TGD (G : Gd) (b : D → Sto → Option Sto) (is : List Nat) : TG := fun v σ H Q => ∃ B0 H0 B ρ d ρ', StOk G B0 H0 B H σ ρ ∧ Rep G B d v ∧ b d ρ = some ρ' ∧ ∀ σ', StOk G B0 H0 B H σ' ρ' → (∀ j, j ∉ is → σ'[j]? = σ[j]?) → σ'.length = σ.length → Q σ' H
def TGsD (G : Gd) (b : List D → Sto → Option Sto) (is : List Nat) : TGs := fun vs σ H Q => ∃ B0 H0 B ρ ds ρ', StOk G B0 H0 B H σ ρ ∧ Reps G B ds vs ∧ b ds ρ = some ρ' ∧ ∀ σ', StOk G B0 H0 B H σ' ρ' → (∀ j, j ∉ is → σ'[j]? = σ[j]?) → σ'.length = σ.length → Q σ' H
def gNm (i : Nat) : D → Sto → Option Sto := fun d ρ => some (ρ.set i (some (.sh d)))
def gsNil : List D → Sto → Option Sto
  | [], ρ => some ρ
  | _, _ => none
def gsCons (b : D → Sto → Option Sto) (bs : List D → Sto → Option Sto) : List D → Sto → Option Sto
  | d :: ds, ρ => (b d ρ).bind fun ρ' => bs ds ρ'
  | [], _ => none
def gTp (n : Nat) (bs : List D → Sto → Option Sto) : D → Sto → Option Sto
  | .tup ds, ρ => if ds.length = n then bs ds ρ else none
  | .ctp ds, ρ => if ds.length = n then bs ds ρ else none
  | _, _ => none
section
variable {X : Cx} {W : WX} {pos : Pos} {i : Nat} {x : Str}
theorem dg_nm (i : Nat) (hN : X.N.Nodup) (hi : X.N[i]? = some x := by rfl) (hx : Loc X.env.scope x := by first | exact Or.inl rfl | exact Or.inr rfl) (hf : X.fn x = true ∨ X.env.scope.names.lookup x = some .local := by first | exact .inl rfl | exact .inr rfl) : PG X (.Name x pos) (TGD (gd X) (gNm i) [i]) := (pg_name hN hi hx hf).wk fun v σ H Q ⟨B0, H0, B, ρ, d, ρ', S, r, e, q⟩ => by
  cases e
  exact q _ (S.set_sh r i) (fun j hj => List.getElem?_set_ne (by simpa using Ne.symm (by simpa using hj))) List.length_set
theorem dgs_nil : PGs X [] (TGsD (gd X) gsNil []) := pgs_nil.wk fun vs σ H Q ⟨B0, H0, B, ρ, ds, ρ', S, r, e, q⟩ => by
  cases ds with
  | nil =>
    cases e
    simp only [Reps] at r
    exact ⟨r, q σ S (fun _ _ => rfl) rfl⟩
  | cons d ds => cases e
theorem dgs_cons {e : Expr} {es : List Expr} {b : D → Sto → Option Sto} {bs : List D → Sto → Option Sto} {is js : List Nat} (h1 : PG X e (TGD (gd X) b is)) (h2 : PGs X es (TGsD (gd X) bs js))
    (hs : (assignEach (e :: es) X.env).map (·.2) = assign e X.env :: (assignEach es X.env).map (·.2) := by rfl) : PGs X (e :: es) (TGsD (gd X) (gsCons b bs) (is ++ js)) := (pgs_cons h1 h2 hs).wk fun vs σ H Q ⟨B0, H0, B, ρ, ds, ρ', S, r, e, q⟩ => by
  cases ds with
  | nil => cases e
  | cons d ds =>
    simp only [Reps] at r
    obtain ⟨v, t, ev, r1, r2⟩ := r
    have e : ((b d ρ).bind fun ρ' => bs ds ρ') = some ρ' := e
    cases hb : b d ρ with
    | none => rw [hb] at e; cases e
    | some ρ1 =>
      rw [hb] at e
      refine ⟨v, t, ev, B0, H0, B, ρ, d, ρ1, S, r1, hb, fun σ1 S1 a1 l1 => ⟨B0, H0, B, ρ1, ds, ρ', S1, r2, e, fun σ2 S2 a2 l2 => q σ2 S2 (fun j hj => ?_) (l2.trans l1)⟩⟩
      rw [List.mem_append, not_or] at hj
      rw [a2 j hj.2, a1 j hj.1]
theorem dg_tp {es : List Expr} {k : Nat} {bs : List D → Sto → Option Sto} {is : List Nat} {n : Nat} (hc : X.calm = true) (h : PGs X es (TGsD (gd X) bs is))
    (hn : (assignEach es X.env).length = n := by rfl) (hst : (assignEach es X.env).findIdx? (·.1) = none := by rfl) : PG X (.Tuple es k pos) (TGD (gd X) (gTp n bs) is) := (pg_tup hc h hn hst).wk fun v σ H Q ⟨B0, H0, B, ρ, d, ρ', S, r, e, q⟩ => by
  cases d with
  | tup ds =>
    simp only [gTp] at e
    split at e
    · rename_i hl
      simp only [Rep] at r
      obtain ⟨a, xs, rfl, ha, rs⟩ := r
      exact ⟨a, xs, rfl, .of (S.ext.i' _ _ ha), by rw [reps_len rs]; exact hl, B0, H0, B, ρ, ds, ρ', S, rs, e, q⟩
    · cases e
  | ctp ds =>
    simp only [gTp] at e
    split at e
    · rename_i hl
      simp only [Rep] at r
      obtain ⟨a, xs, rfl, ha, rs⟩ := r
      exact ⟨a, xs, rfl, sqt_mono S.ext.i' ha, by rw [reps_len rs]; exact hl, B0, H0, B, ρ, ds, ρ', S, rs, e, q⟩
    · cases e
  | _ => cases e
end
section
variable {X : Cx} {W : WX} {tg e : Expr} {f : Sto → M D} {pos : Pos}
theorem walk_lst {G : Gd} {B1 : Hp} {a : Addr} {xs : List V} {ds : List D} (K : PySem.W.Frag) (h : ∀ B H, Same B1 B → Same B H → SqL K H a xs) (r : Reps G B1 ds xs) : DWalk G B1 (Itl K a) ds where
  goes := fun i B H hi s t => by
    obtain ⟨x, hx⟩ : ∃ x, xs[i]? = some x := ⟨xs[i]'(by rw [reps_len r]; exact hi), List.getElem?_eq_getElem _⟩
    exact ⟨xs, x, h B H s t, hx⟩
  stops := fun B H s t => ⟨xs, h B H s t, by rw [reps_len r]; exact Nat.le_refl _⟩
  ylds := fun i B H x H' hi s t y => by
    obtain ⟨rfl, y⟩ := y
    have hx := y xs (h B H' s t)
    obtain ⟨d, hd, rd⟩ := reps_get' r hx
    exact ⟨B, d, Ext.refl t, hd, rep_mono s _ _ rd⟩
theorem walk_tp {G : Gd} {B1 : Hp} {a : Addr} {xs : List V} {ds : List D} (K : PySem.W.Frag) (h : ∀ B H, Same B1 B → Same B H → SqT K H a xs) (r : Reps G B1 ds xs) : DWalk G B1 (Itt K a) ds where
  goes := fun i B H hi s t => by
    obtain ⟨x, hx⟩ : ∃ x, xs[i]? = some x := ⟨xs[i]'(by rw [reps_len r]; exact hi), List.getElem?_eq_getElem _⟩
    exact ⟨xs, x, h B H s t, hx⟩
  stops := fun B H s t => ⟨xs, h B H s t, by rw [reps_len r]; exact Nat.le_refl _⟩
  ylds := fun i B H x H' hi s t y => by
    obtain ⟨rfl, y⟩ := y
    have hx := y xs (h B H' s t)
    obtain ⟨d, hd, rd⟩ := reps_get' r hx
    exact ⟨B, d, Ext.refl t, hd, rep_mono s _ _ rd⟩
/-- over a shared list -/
def iL (f : Sto → M D) : Sto → M (List D) := fun ρ => match f ρ with
  | .ok (.lst ds) => .ok ds
  | .ok (.fls ds) => .ok ds
  | .ok _ => .error .stuck
  | .error e => .error e
/-- .. a shared tuple -/
def iT (f : Sto → M D) : Sto → M (List D) := fun ρ => match f ρ with
  | .ok (.tup ds) => .ok ds
  | .ok (.ctp ds) => .ok ds
  | .ok _ => .error .stuck
  | .error e => .error e
theorem di_list (he : PE X e (TD (gd X) W f)) : PI X tg e (TID (gd X) W (iL f)) := (pi_list he).wk fun σ H R ⟨B0, H0, B, ρ, S, q⟩ => by
  unfold iL at q
  refine td_i S (fun er h => by rw [h] at q; exact q) fun v H1 B1 d x r e => ?_
  rw [e] at q
  cases d with
  | lst ds =>
    simp only [Rep] at r
    obtain ⟨a, xs, rfl, ha, rs⟩ := r
    exact ⟨a, rfl, ⟨xs, .of (x.i' _ _ ha)⟩, q _ B1 H1 x (walk_lst X.K (fun B H s t => .of (t _ _ (s _ _ ha))) rs)⟩
  | fls ds =>
    simp only [Rep] at r
    obtain ⟨a, xs, rfl, ha, rs⟩ := r
    exact ⟨a, rfl, ⟨xs, sql_mono x.i' ha⟩, q _ B1 H1 x (walk_lst X.K (fun B H s t => sql_mono t (sql_mono s ha)) rs)⟩
  | _ => exact q.elim
theorem di_tup (he : PE X e (TD (gd X) W f)) : PI X tg e (TID (gd X) W (iT f)) := (pi_tup he).wk fun σ H R ⟨B0, H0, B, ρ, S, q⟩ => by
  unfold iT at q
  refine td_i S (fun er h => by rw [h] at q; exact q) fun v H1 B1 d x r e => ?_
  rw [e] at q
  cases d with
  | tup ds =>
    simp only [Rep] at r
    obtain ⟨a, xs, rfl, ha, rs⟩ := r
    exact ⟨a, rfl, ⟨xs, .of (x.i' _ _ ha)⟩, q _ B1 H1 x (walk_tp X.K (fun B H s t => .of (t _ _ (s _ _ ha))) rs)⟩
  | ctp ds =>
    simp only [Rep] at r
    obtain ⟨a, xs, rfl, ha, rs⟩ := r
    exact ⟨a, rfl, ⟨xs, sqt_mono x.i' ha⟩, q _ B1 H1 x (walk_tp X.K (fun B H s t => sqt_mono t (sqt_mono s ha)) rs)⟩
  | _ => exact q.elim
def rngD (lo : Int) (n : Nat) : List D := (List.range n).map fun (i : Nat) => .int (lo + (i : Int))
theorem walk_rng {G : Gd} {B1 : Hp} {lo : Int} {n : Nat} : DWalk G B1 (Itr lo n) (rngD lo n) where
  goes := fun i B H hi s t => by show i < n; simpa [rngD] using hi
  stops := fun B H s t => by show n ≤ (rngD lo n).length; simp [rngD]
  ylds := fun i B H x H' hi s t y => by
    obtain ⟨rfl, rfl⟩ := y
    have hi' : i < n := by simpa [rngD] using hi
    exact ⟨B, .int (lo + i), Ext.refl t, by simp [rngD, hi'], rep_int⟩
def rngOk (i : Int) : Bool := decide (-1000000000 ≤ i) && decide (i ≤ 1000000000)
def iR (g : Sto → M (List D)) : Sto → M (List D) := fun ρ => match g ρ with
  | .ok [.int j] => if rngOk j then .ok (rngD 0 j.toNat) else .error .stuck
  | .ok [.int i, .int j] => if rngOk i && rngOk j then .ok (rngD i (j - i).toNat) else .error .stuck
  | .ok _ => .error .stuck
  | .error e => .error e
theorem rngOk_of {i : Int} (h : rngOk i = true) : -(2 ^ 62) ≤ i ∧ i < 2 ^ 62 := by
  unfold rngOk at h
  rw [Bool.and_eq_true] at h
  have h1 := of_decide_eq_true h.1
  have h2 := of_decide_eq_true h.2
  omega
theorem di_rng1 {a : Expr} {g : Sto → M (List D)} {p : Pos} (hm : X.mg "range" = none) (ha : PA X [a] (TAD (gd X) W g)) (hl : LenA g 1 := by repeat (first | exact len_nil | refine len_cons ?_)) (hg : Gl X "range" := by rfl) (hs : starEach [a] X.env = [(false, eval a X.env)] := by rfl) : PI X tg (.Call (.Name "range" p) [a] [] pos) (TID (gd X) W (iR g)) := (pi_range1 hg hm ha hs).wk fun σ H R ⟨B0, H0, B, ρ, S, q⟩ => by
  unfold iR at q
  refine tad_i S (fun er h => by rw [h] at q; exact q) fun vs H1 B1 ds x r e => ?_
  have hlen := hl ρ ds e
  rw [e] at q
  match ds, hlen with
  | [d], _ =>
    simp only [Reps] at r
    obtain ⟨v, t, rfl, r1, rfl⟩ := r
    cases d with
    | int j =>
      dsimp only at q
      split at q
      · rename_i hj
        obtain ⟨h1, h2⟩ := rngOk_of hj
        simp only [Rep] at r1
        subst r1
        exact ⟨j, rfl, h1, h2, q _ B1 H1 x walk_rng⟩
      · exact q.elim
    | _ => exact q.elim
theorem di_rng2 {a b : Expr} {g : Sto → M (List D)} {p : Pos} (hm : X.mg "range" = none) (ha : PA X [a, b] (TAD (gd X) W g)) (hl : LenA g 2 := by repeat (first | exact len_nil | refine len_cons ?_)) (hg : Gl X "range" := by rfl) (hs : starEach [a, b] X.env = [(false, eval a X.env), (false, eval b X.env)] := by rfl) (hs2 : starEach [b] X.env = [(false, eval b X.env)] := by rfl) : PI X tg (.Call (.Name "range" p) [a, b] [] pos) (TID (gd X) W (iR g)) := (pi_range2 hg hm ha hs hs2).wk fun σ H R ⟨B0, H0, B, ρ, S, q⟩ => by
  unfold iR at q
  refine tad_i S (fun er h => by rw [h] at q; exact q) fun vs H1 B1 ds x r e => ?_
  have hlen := hl ρ ds e
  rw [e] at q
  match ds, hlen with
  | [d, d'], _ =>
    simp only [Reps] at r
    obtain ⟨v, t, rfl, r1, v2, t2, rfl, r2, rfl⟩ := r
    cases d with
    | int i =>
      cases d' with
      | int j =>
        dsimp only at q
        split at q
        · rename_i hj
          rw [Bool.and_eq_true] at hj
          obtain ⟨h1, h2⟩ := rngOk_of hj.1
          obtain ⟨h3, h4⟩ := rngOk_of hj.2
          simp only [Rep] at r1 r2
          subst r1 r2
          exact ⟨i, j, rfl, ⟨h1, h2, h3, h4⟩, q _ B1 H1 x walk_rng⟩
        · exact q.elim
      | _ => exact q.elim
    | _ => exact q.elim
theorem ds_for {iter : Expr} {body : List Stmt} {f : Sto → M (List D)} {b : D → Sto → Option Sto} {is : List Nat} {g : Sto → Res} (hp : PassesOwn (model X.prog X.w) X.A X.env X.xe) (hc : X.calm = true) (hi : PI X tg iter (TID (gd X) W f)) (hg : PG X tg (TGD (gd X) b is)) (hb : PSs X body (TSD (gd X) W g))
    (hs : ∀ x, foldedSetIterable iter X.env x = pure x := by intro _; rfl) : PS X (.For tg iter body [] pos) (TSD (gd X) W (sFor f b g)) := (ps_for hp hc hi hg hb hs).wk fun Dn σ H ⟨B0, H0, B, ρ, S, q⟩ => by
  unfold sFor at q
  refine ⟨B0, H0, B, ρ, S, ?_⟩
  cases hf : f ρ with
  | error er => rw [hf] at q; exact q σ B H S
  | ok ds =>
    rw [hf] at q
    intro J B1 H1 x w
    have S1 := S.mono x
    have q1 : SPost (gd X) W B1 (over B1 H0) Dn (fl b g ds ρ) := SPost.rebase S1.ext q
    refine ⟨fun i m σ H => m = ds.length - i ∧ i ≤ ds.length ∧ ∃ B ρ, StOk (gd X) B1 (over B1 H0) B H σ ρ ∧ SPost (gd X) W B1 (over B1 H0) Dn (fl b g (ds.drop i) ρ), ⟨_, rfl, Nat.zero_le _, B1, ρ, S1.rebase, by rw [List.drop_zero]; exact q1⟩, ?_⟩
    rintro i m σ2 H2 ⟨rfl, hi, B2, ρ2, S2, q2⟩
    by_cases hlt : i < ds.length
    · refine .inr ⟨w.goes i B2 H2 hlt S2.ext.b S2.ext.i', ?_⟩
      obtain ⟨d, hd⟩ : ∃ d, ds[i]? = some d := ⟨ds[i], List.getElem?_eq_getElem hlt⟩
      have hdrop : ds.drop i = d :: ds.drop (i + 1) := by
        rw [List.drop_eq_getElem_cons hlt]
        have := (List.getElem?_eq_some_iff.mp hd).2
        rw [this]
      rw [hdrop] at q2
      unfold fl at q2
      cases hb' : b d ρ2 with
      | none => rw [hb'] at q2; exact (q2 σ2 B2 H2 S2).elim
      | some ρ3 =>
        rw [hb'] at q2
        dsimp only at q2
        refine ⟨fun σ' H' => ∃ B ρ, StOk (gd X) B1 (over B1 H0) B H' σ' ρ ∧ SPost (gd X) W B1 (over B1 H0) Dn (fl b g (ds.drop (i + 1)) ρ), fun σ' H' h' => ⟨ds.length - (i + 1), by omega, rfl, hlt, h'⟩, fun y H3 hy => ?_⟩
        obtain ⟨B3, d', x3, hd', rd⟩ := w.ylds i B2 H2 y H3 hlt S2.ext.b S2.ext.i' hy
        rw [hd] at hd'
        cases hd'
        refine ⟨B1, over B1 H0, B3, ρ2, d, ρ3, S2.mono x3, rd, hb', fun σ' S' _ _ => ⟨B1, over B1 H0, B3, ρ3, S', ?_⟩⟩
        cases hr : g ρ3 with
        | nx ρ' => rw [hr] at q2; exact fun σ4 B4 H4 S4 => ⟨B4, ρ', S4, q2⟩
        | ct ρ' => rw [hr] at q2; exact fun σ4 B4 H4 S4 => ⟨B4, ρ', S4, q2⟩
        | bk ρ' => rw [hr] at q2; exact q2
        | rt s => rw [hr] at q2; exact q2
        | er er ρ' => rw [hr] at q2; exact q2
    · have e : i = ds.length := by omega
      subst e
      rw [List.drop_length] at q2
      exact .inl ⟨w.stops B2 H2 S2.ext.b S2.ext.i', q2 σ2 B2 H2 S2⟩
end
end DL

namespace DL
open PySem PySem.Spec PyProof.Rows L2

/-! ### things of one's own are changed -/
def owL (i : Nat) (ρ : Sto) (k : List D → Res) : Res := match ρ[i]? with
  | some (some (.ow (.lst ds))) => k ds
  | _ => .er .stuck ρ
def sApp (i : Nat) (f : Sto → M D) : Sto → Res := fun ρ => owL i ρ fun ds => match f ρ with
  | .error e => .er e ρ
  | .ok d => if lim ds.length then .nx (ρ.set i (some (.ow (.lst (ds ++ [d]))))) else .er .stuck ρ
def sExt (i : Nat) (f : Sto → M D) : Sto → Res := fun ρ => owL i ρ fun ds => match f ρ with
  | .error e => .er e ρ
  | .ok (.lst es) => if lim (ds.length + es.length) then .nx (ρ.set i (some (.ow (.lst (ds ++ es))))) else .er .stuck ρ
  | .ok _ => .er .stuck ρ
def sPut (i : Nat) (fk f : Sto → M D) : Sto → Res := fun ρ => owL i ρ fun ds => match f ρ with
  | .error e => .er e ρ
  | .ok d => match fk ρ with
    | .error e => .er e ρ
    | .ok (.int j) => match ixN ds.length j with
      | some n => .nx (ρ.set i (some (.ow (.lst (ds.set n d)))))
      | none => .er .stuck ρ
    | .ok _ => .er .stuck ρ
def sPop (i j : Nat) : Sto → Res := fun ρ => owL i ρ fun ds => match ds[ds.length - 1]? with
  | some d => .nx ((ρ.set i (some (.ow (.lst ds.dropLast)))).set j (some (.sh d)))
  | none => .er .stuck ρ
def sAug (i : Nat) (g : Int → Int → Int) (f : Sto → M D) : Sto → Res := fun ρ => match ρ[i]? with
  | some (some (.sh (.int a))) => match f ρ with
    | .ok (.int b) => .nx (ρ.set i (some (.sh (.int (g a b)))))
    | .ok _ => .er .stuck ρ
    | .error e => .er e ρ
  | _ => .er .stuck ρ
theorem owL_cases (i : Nat) (ρ : Sto) : (∃ ds, ρ[i]? = some (some (Sl.ow (.lst ds))) ∧ ∀ k, owL i ρ k = k ds) ∨ ∀ k, owL i ρ k = .er .stuck ρ := by
  unfold owL
  cases h : ρ[i]? with
  | none => exact .inr fun _ => rfl
  | some o =>
    cases o with
    | none => exact .inr fun _ => rfl
    | some sl =>
      cases sl with
      | sh d => exact .inr fun _ => rfl
      | ow d =>
        cases d with
        | lst ds => exact .inl ⟨ds, rfl, fun _ => rfl⟩
        | _ => exact .inr fun _ => rfl
section
variable {X : Cx} {W : WX} {e k : Expr} {f fk : Sto → M D} {pos px : Pos} {x : Str}
theorem ds_app (i : Nat) {apos cpos : Pos} (he : PE X e (TD (gd X) W f)) (hN : X.N[i]? = some x := by rfl) (hv : Vis X.env.scope x := by first | exact Or.inl rfl | exact Or.inr (Or.inl rfl) | exact Or.inr (Or.inr rfl)) (hd : (x == ("__debug__" : Str)) = false := by decide) (hcd : (x == ("__classdict__" : Str)) = false := by decide)
    (hbase : attributeBase (.Name x px) "append" X.env (eval (.Name x px) X.env) = eval (.Name x px) X.env := by rfl)
    (hfew : ((backTo cpos (starEach (e :: []) X.env)).all (fun x => !x.1) && (backToKw cpos (keywordEach [] X.env)).all (fun x => x.1.isSome)
      && decide ((e :: []).length + ([] : List Keyword).length + (if ([] : List Keyword).isEmpty then 0 else 1) < 30)) = true := by rfl)
    (hline : (apos.endLine == cpos.line) = true := by rfl) (hs : starEach (e :: []) X.env = (false, eval e X.env) :: starEach [] X.env := by rfl) (hsw : swapsWith (.Call (.Attribute (.Name x px) "append" apos) [e] [] cpos) none pos.line X.env = pure false := by rfl) :
    PS X (.Expr (.Call (.Attribute (.Name x px) "append" apos) [e] [] cpos) pos) (TSD (gd X) W (sApp i f)) :=
  (ps_expr (pe_bm PySem.F.plainAttrs_list PySem.F.slot_list_append PySem.F.type_list_append mt_append (pe_var hN hv hd hcd) (pa_cons he pa_nil hs) hbase hfew hline hs rfl) hsw).wk fun Dn σ H ⟨B0, H0, B, ρ, S, q⟩ => by
    unfold sApp at q
    rcases owL_cases i ρ with ⟨ds, hi, ek⟩ | ek
    · rw [ek] at q
      obtain ⟨p, h1, h2, h3, xs, h4, rs⟩ := S.ow i _ hi
      refine ⟨_, h1, .inl ⟨rfl, xs, .of h4⟩, td_i S (fun er h => by rw [h] at q; exact q σ B H S) fun v H1 B1 d x r e => ?_⟩
      rw [e] at q
      dsimp only at q
      split at q
      · rename_i hl
        have h4' := x.h _ _ h4
        have S1 := S.mono x
        refine ⟨p, xs, v, rfl, rfl, h4', by rw [reps_len rs]; exact lim_lt hl, q _ B1 _ (S1.upd_ow hi h1 ⟨_, upd_same, reps_app (reps_mono x.b _ _ rs) (reps_one r)⟩)⟩
      · exact (q σ B H S).elim
    · rw [ek] at q; exact (q σ B H S).elim
theorem ds_put (i : Nat) {tpos : Pos} (he : PE X e (TD (gd X) W f)) (hk : PE X k (TD (gd X) W fk)) (hN : X.N[i]? = some x := by rfl) (hv : Vis X.env.scope x := by first | exact Or.inl rfl | exact Or.inr (Or.inl rfl) | exact Or.inr (Or.inr rfl)) (hd : (x == ("__debug__" : Str)) = false := by decide) (hcd : (x == ("__classdict__" : Str)) = false := by decide)
    (ha : ∀ v, assign (.Subscript (.Name x px) k tpos) X.env v = (do
      let ov ← holding [v] (eval (.Name x px) X.env)
      let iv ← holding [v, ov] (eval k X.env)
      standAt tpos
      holding [v, ov, iv] (setItem ov iv v)
      release [v, ov, iv] []) := by intro _; rfl)
    (hs : swapsWithSole [.Subscript (.Name x px) k tpos] e pos.line X.env = pure false := by rfl) (hw : swappedStores [.Subscript (.Name x px) k tpos] e X.env = pure none := by rfl) (h1 : (assignEach [.Subscript (.Name x px) k tpos] X.env).map (·.2) = [assign (.Subscript (.Name x px) k tpos) X.env] := by rfl) :
    PS X (.Assign [.Subscript (.Name x px) k tpos] e pos) (TSD (gd X) W (sPut i fk f)) :=
  (ps_asg he (pg_sub (pe_var hN hv hd hcd) hk set_list ha) hs hw h1).wk fun Dn σ H ⟨B0, H0, B, ρ, S, q⟩ => by
    unfold sPut at q
    rcases owL_cases i ρ with ⟨ds, hi, ek⟩ | ek
    · rw [ek] at q
      obtain ⟨p, h1, h2, h3, xs, h4, rs⟩ := S.ow i _ hi
      refine td_i S (fun er h => by rw [h] at q; exact q σ B H S) fun v H1 B1 d x r e => ?_
      rw [e] at q
      dsimp only at q
      refine ⟨_, h1, td_i (S.mono x) (fun er h => by rw [h] at q; exact ErOk.mono (q σ B H S) x) fun kv H2 B2 kd x2 r2 e2 => ?_⟩
      rw [e2] at q
      cases kd with
      | int j =>
        dsimp only at q
        cases hj : ixN ds.length j with
        | none => rw [hj] at q; exact (q σ B H S).elim
        | some n =>
          rw [hj] at q
          simp only [Rep] at r2
          subst r2
          have x3 := x.trans x2
          have h4' := x3.h _ _ h4
          exact ⟨p, xs, j, n, rfl, rfl, h4', by rw [reps_len rs]; exact hj, q _ B2 _ ((S.mono x3).upd_ow hi h1 ⟨_, upd_same, reps_set (reps_mono x3.b _ _ rs) (rep_mono x2.b _ _ r)⟩)⟩
      | _ => exact (q σ B H S).elim
    · rw [ek] at q
      exact (q σ B H S).elim
theorem ds_aug {op : Operator} {g : Int → Int → Int} (i : Nat) {pos' : Pos} (hN : X.N.Nodup) (hop : PIp X op (ipI g)) (he : PE X e (TD (gd X) W f)) (hi : X.N[i]? = some x := by rfl) (hx : Loc X.env.scope x := by first | exact Or.inl rfl | exact Or.inr rfl) (hf : X.fn x = true ∨ X.env.scope.names.lookup x = some .local := by first | exact .inl rfl | exact .inr rfl) :
    PS X (.AugAssign (.Name x pos') op e pos) (TSD (gd X) W (sAug i g f)) := (ps_aug hN hi hx he hop hf).wk fun Dn σ H ⟨B0, H0, B, ρ, S, q⟩ => by
  unfold sAug at q
  cases h : ρ[i]? with
  | none => rw [h] at q; exact (q σ B H S).elim
  | some o =>
    rw [h] at q
    cases o with
    | none => exact (q σ B H S).elim
    | some sl =>
      cases sl with
      | ow d => exact (q σ B H S).elim
      | sh d =>
        cases d with
        | int a =>
          obtain ⟨v, h1, h2⟩ := S.sh i _ h
          simp only [Rep] at h2
          subst h2
          dsimp only at q
          refine ⟨_, h1, td_i S (fun er h => by rw [h] at q; exact q σ B H S) fun w H1 B1 d x r e => ?_⟩
          rw [e] at q
          cases d with
          | int b =>
            simp only [Rep] at r
            subst r
            exact ⟨a, b, rfl, rfl, q _ B1 H1 ((S.mono x).set_sh rep_int i)⟩
          | _ => exact (q σ B H S).elim
        | _ => exact (q σ B H S).elim
end

/-! ### comprehensions -/
def lcGo (b : D → Sto → Option Sto) (c : Sto → M Bool) (e : Sto → M D) (ρ : Sto) : List D → M (List D)
  | [] => .ok []
  | x :: xs => match b x ρ with
    | none => .error .stuck
    | some ρ1 => match c ρ1 with
      | .error _ => .error .stuck
      | .ok false => lcGo b c e ρ xs
      | .ok true => match e ρ1 with
        | .error _ => .error .stuck
        | .ok y => match lcGo b c e ρ xs with
          | .error _ => .error .stuck
          | .ok ys => .ok (y :: ys)
def eLc (f : Sto → M (List D)) (b : D → Sto → Option Sto) (c : Sto → M Bool) (e : Sto → M D) (vs : List Nat) : Sto → M D := fun ρ => match f ρ with
  | .error er => .error er
  | .ok ds => if lim ds.length then (match lcGo b c e (wipeS ρ vs) ds with
    | .ok ys => .ok (.lst ys)
    | .error _ => .error .stuck) else .error .stuck
def bYes : Sto → M Bool := fun _ => .ok true
abbrev W0 : WX := fun _ _ _ _ => False
theorem wipe_eq {σ σ2 : L2.St} {vs : List Nat} (hl : σ2.length = σ.length) (h : ∀ j, j ∉ vs → σ2[j]? = (L2.wipe σ vs)[j]?) : L2.wipe σ2 vs = L2.wipe σ vs := by
  refine List.ext_getElem? fun j => ?_
  by_cases hj : j ∈ vs
  · have both : ∀ (τ : L2.St) (us : List Nat), j ∈ us → (L2.wipe τ us)[j]? = if j < τ.length then some none else none := by
      intro τ us
      induction us with
      | nil => intro h; cases h
      | cons u us ih =>
        intro h
        show ((L2.wipe τ us).set u none)[j]? = _
        by_cases hu : u = j
        · subst hu
          by_cases hl : u < τ.length
          · rw [List.getElem?_set_self (by rw [wipe_length]; exact hl), if_pos hl]
          · rw [List.getElem?_eq_none (by rw [List.length_set, wipe_length]; omega), if_neg hl]
        · rw [List.getElem?_set_ne hu]
          rcases List.mem_cons.mp h with e | h
          · exact absurd e.symm hu
          · exact ih h
    rw [both σ2 vs hj, both σ vs hj, hl]
  · rw [← h j hj, wipe_out hj]
theorem lc_tr {G : Gd} {W : WX} {f : Sto → M (List D)} {b : D → Sto → Option Sto} {is : List Nat} {c : Sto → M Bool} {e : Sto → M D} {vs : List Nat} (hv : ∀ i ∈ is, i ∈ vs) {σ : L2.St} {H : Hp} {Q : VK} (h : TF G W (eLc f b c e vs) σ H Q) :
    tLc (TID G W f) (TGD G b is) (TB G W0 c) (TD G W0 e) vs σ H Q := by
  obtain ⟨B0, H0, B, ρ, S, q⟩ := h
  refine ⟨B0, H0, B, ρ, S, ?_⟩
  unfold eLc at q
  cases hf : f ρ with
  | error er => rw [hf] at q; exact q
  | ok ds =>
    rw [hf] at q
    dsimp only at q
    split at q
    · rename_i hlim
      cases hgo : lcGo b c e (wipeS ρ vs) ds with
      | error er => rw [hgo] at q; exact q.elim
      | ok ys =>
        rw [hgo] at q
        intro J B1 H1 x w L hL
        have S1 := S.mono x
        refine ⟨fun i m H => m = ds.length - i ∧ i ≤ ds.length ∧ ∃ B acc accV rest, Ext B1 H1 B H ∧ B L = none ∧ H L = some (.lst accV) ∧ Reps G B acc accV ∧ lcGo b c e (wipeS ρ vs) (ds.drop i) = .ok rest ∧ ys = acc ++ rest ∧ acc.length ≤ i,
          ⟨_, rfl, Nat.zero_le _, B1, [], [], ys, Ext.own x.i' hL, none_of_same x.i' hL, upd_same, reps_nil, by rw [List.drop_zero]; exact hgo, rfl, Nat.le_refl _⟩, ?_⟩
        rintro i m H2 ⟨rfl, hi, B2, acc, accV, rest, x2, hb, hl2, ra, hgo2, hys, hacc⟩
        by_cases hlt : i < ds.length
        · refine .inr ⟨w.goes i B2 H2 hlt x2.b x2.i', fun H' => ∃ B acc accV rest, Ext B1 H1 B H' ∧ B L = none ∧ H' L = some (.lst accV) ∧ Reps G B acc accV ∧ lcGo b c e (wipeS ρ vs) (ds.drop (i + 1)) = .ok rest ∧ ys = acc ++ rest ∧ acc.length ≤ i + 1,
            fun H' h' => ⟨ds.length - (i + 1), by omega, rfl, hlt, h'⟩, fun y H3 hy => ?_⟩
          obtain ⟨B3, d, x3, hd, rd⟩ := w.ylds i B2 H2 y H3 hlt x2.b x2.i' hy
          have hdrop : ds.drop i = d :: ds.drop (i + 1) := by
            rw [List.drop_eq_getElem_cons hlt]
            have := (List.getElem?_eq_some_iff.mp hd).2
            rw [this]
          rw [hdrop] at hgo2
          unfold lcGo at hgo2
          cases hbd : b d (wipeS ρ vs) with
          | none => rw [hbd] at hgo2; cases hgo2
          | some ρ3 =>
            rw [hbd] at hgo2
            dsimp only at hgo2
            have x13 := x2.trans x3
            have hL2 : ∀ {B' H' : Hp}, Ext B2 H2 B' H' → B' L = none ∧ H' L = some (.lst accV) := fun y => ⟨by rw [y.n L (by rw [hl2]; simp)]; exact hb, y.h L _ hl2⟩
            refine ⟨B0, H0, B3, wipeS ρ vs, d, ρ3, (S1.mono x13).wipe vs, rd, hbd, fun σ' S' ag lg => ⟨wipe_eq (lg.trans (wipe_length σ vs)) fun j hj => ag j fun z => hj (hv j z), ?_⟩⟩
            · refine tb_i S' (fun er he => by rw [he] at hgo2; cases hgo2) fun k H4 B4 x4 ek => ?_
              rw [ek] at hgo2
              cases k with
              | false =>
                have x24 := x3.trans x4
                obtain ⟨g1, g2⟩ := hL2 x24
                exact ⟨B4, acc, accV, rest, x13.trans x4, g1, g2, reps_mono x24.b _ _ ra, hgo2, hys, by omega⟩
              | true =>
                dsimp only at hgo2
                refine td_i (S'.mono x4) (fun er he => by rw [he] at hgo2; cases hgo2) fun v H5 B5 dy x5 ry ey => ?_
                rw [ey] at hgo2
                dsimp only at hgo2
                cases hr : lcGo b c e (wipeS ρ vs) (ds.drop (i + 1)) with
                | error er => rw [hr] at hgo2; cases hgo2
                | ok rest' =>
                  rw [hr] at hgo2
                  cases hgo2
                  have x25 := (x3.trans x4).trans x5
                  obtain ⟨g1, g2⟩ := hL2 x25
                  have x15 := (x13.trans x4).trans x5
                  have lenA := reps_len ra
                  refine ⟨accV, g2, ?_, B5, acc ++ [dy], accV ++ [v], rest', ⟨x15.i, x15.b, fun a u q => ?_, fun a u q => ?_, x15.n⟩, g1, upd_same, reps_app (reps_mono x25.b _ _ ra) (reps_one ry), rfl, by rw [hys, List.append_assoc]; rfl, by rw [List.length_append]; simp; omega⟩
                  · have := lim_lt hlim; omega
                  · rw [upd_ne (ne_of_none q g1)]; exact x15.i' a u q
                  · rw [upd_ne (ne_of_none q hL)]; exact x15.h a u q
        · have e : i = ds.length := by omega
          subst e
          rw [List.drop_length] at hgo2
          cases hgo2
          rw [List.append_nil] at hys
          subst hys
          exact .inl ⟨w.stops B2 H2 x2.b x2.i', q L B2 H2 (x.trans x2) (x.fresh hL) hb ⟨accV, hl2, ra⟩⟩
    · exact q.elim
end DL

namespace DL
open PySem PySem.Spec PyProof.Rows L2
section
variable {X : Cx} {W : WX} {elt tg iter : Expr} {ifs : List Expr} {scope : Scope} {own : List (Str × Nat)} {pos : Pos} {f : Sto → M (List D)} {b : D → Sto → Option Sto} {is : List Nat} {c : Sto → M Bool} {e : Sto → M D}
theorem ts_nil : PTs X [] (TB (gd X) W0 bYes) := ⟨fun pins s σ H Q I ⟨B0, H0, B, ρ, S, q⟩ => pts_nil.run pins s σ H Q I (q B H (Ext.refl S.ext.i'))⟩
theorem ts_one {t : Expr} (h : PT X t (TB (gd X) W0 c)) : PTs X [t] (TB (gd X) W0 c) := pts_one h
theorem df_lc (hN : X.N.Nodup) (own : List (Str × Nat)) (hi : PI X tg iter (TID (gd X) W f)) (ok : blkC X.N X.env.scope scope own = true)
    (hg : ∀ (s : Shared) (H : Hp) (C : Addr) (cl : List (Str × Addr)) (fp : List Addr), PG (X.blk s H scope (compEnvC scope cl C X.env) fp) tg (TGD (gd X) b is)) (ht : ∀ (s : Shared) (H : Hp) (C : Addr) (cl : List (Str × Addr)) (fp : List Addr), PTs (X.blk s H scope (compEnvC scope cl C X.env) fp) ifs (TB (gd X) W0 c))
    (he : ∀ (s : Shared) (H : Hp) (C : Addr) (cl : List (Str × Addr)) (fp : List Addr), PE (X.blk s H scope (compEnvC scope cl C X.env) fp) elt (TD (gd X) W0 e)) (hv : ∀ i ∈ is, i ∈ own.map (·.2) := by decide) (hc : X.calm = true := by rfl) (hs : ∀ x, foldedSetIterable iter X.env x = pure x := by intro _; rfl) :
    PE X (.ListComp elt [⟨tg, iter, ifs, 0⟩] scope pos) (TF (gd X) W (eLc f b c e (own.map (·.2)))) := (pe_lc hc hN hi (blkOk_by ok) hg ht he hs).wk fun σ H Q h => lc_tr hv h
variable {i : Nat} {y : Str} {py spos : Pos}
theorem ds_setLcF (i : Nat) (hN : X.N.Nodup) (own : List (Str × Nat)) (hi : PI X tg iter (TID (gd X) W f)) (ok : blkC X.N X.env.scope scope own = true)
    (hg : ∀ (s : Shared) (H : Hp) (C : Addr) (cl : List (Str × Addr)) (fp : List Addr), PG (X.blk s H scope (compEnvC scope cl C X.env) fp) tg (TGD (gd X) b is)) (ht : ∀ (s : Shared) (H : Hp) (C : Addr) (cl : List (Str × Addr)) (fp : List Addr), PTs (X.blk s H scope (compEnvC scope cl C X.env) fp) ifs (TB (gd X) W0 c))
    (he : ∀ (s : Shared) (H : Hp) (C : Addr) (cl : List (Str × Addr)) (fp : List Addr), PE (X.blk s H scope (compEnvC scope cl C X.env) fp) elt (TD (gd X) W0 e)) (hsw : swapsWith (.ListComp elt [⟨tg, iter, ifs, 0⟩] scope pos) (some (.Name y py)) spos.line X.env = pure true) (hy : X.N[i]? = some y := by rfl) (hyl : X.env.scope.names.lookup y = some .local := by rfl) (hv : ∀ i ∈ is, i ∈ own.map (·.2) := by decide) (hc : X.calm = true := by rfl) (hs : ∀ x, foldedSetIterable iter X.env x = pure x := by intro _; rfl) :
    PS X (.Assign [.Name y py] (.ListComp elt [⟨tg, iter, ifs, 0⟩] scope pos) spos) (TSD (gd X) W (sSetF i (eLc f b c e (own.map (·.2))))) := (ps_setLc hc hN hy hyl hsw hi (blkOk_by ok) hg ht he hs).wk fun Dn σ H ⟨B0, H0, B, ρ, S, q⟩ => by
  show tLc _ _ _ _ _ σ H fun v H' => gName i v σ H' Dn.nx
  exact lc_tr hv (setF_ok S q)
theorem ds_setLc (i : Nat) (hN : X.N.Nodup) (own : List (Str × Nat)) (hi : PI X tg iter (TID (gd X) W f)) (ok : blkC X.N X.env.scope scope own = true)
    (hg : ∀ (s : Shared) (H : Hp) (C : Addr) (cl : List (Str × Addr)) (fp : List Addr), PG (X.blk s H scope (compEnvC scope cl C X.env) fp) tg (TGD (gd X) b is)) (ht : ∀ (s : Shared) (H : Hp) (C : Addr) (cl : List (Str × Addr)) (fp : List Addr), PTs (X.blk s H scope (compEnvC scope cl C X.env) fp) ifs (TB (gd X) W0 c))
    (he : ∀ (s : Shared) (H : Hp) (C : Addr) (cl : List (Str × Addr)) (fp : List Addr), PE (X.blk s H scope (compEnvC scope cl C X.env) fp) elt (TD (gd X) W0 e)) (hsw : swapsWith (.ListComp elt [⟨tg, iter, ifs, 0⟩] scope pos) (some (.Name y py)) spos.line X.env = pure true) (hy : X.N[i]? = some y := by rfl) (hyl : X.env.scope.names.lookup y = some .local := by rfl) (hv : ∀ i ∈ is, i ∈ own.map (·.2) := by decide) (hc : X.calm = true := by rfl) (hs : ∀ x, foldedSetIterable iter X.env x = pure x := by intro _; rfl) :
    PS X (.Assign [.Name y py] (.ListComp elt [⟨tg, iter, ifs, 0⟩] scope pos) spos) (TSD (gd X) W (sSet i (eLc f b c e (own.map (·.2))))) := (ps_setLc hc hN hy hyl hsw hi (blkOk_by ok) hg ht he hs).wk fun Dn σ H ⟨B0, H0, B, ρ, S, q⟩ => by
  show tLc _ _ _ _ _ σ H fun v H' => gName i v σ H' Dn.nx
  refine lc_tr (W := W) hv ?_
  unfold sSet at q
  refine tf_i S (fun er h => by rw [h] at q; exact q σ B H S) fun p H1 B1 d x h1 h2 h3 e => ?_
  rw [e] at q
  obtain ⟨B2, x2, r⟩ := freeze_rep x h1 h2 h3
  exact q _ B2 H1 ((S.mono x2).set_sh r i)
end
/-! ### fresh lists by + and * -/
def FI (G : Gd) (r : R2) (g : D → D → Option D) : Prop := ∀ B H d e x y z Q, Same B H → Rdb G B H d x → Rdb G B H e y → g d e = some z → (∀ p B' H', Ext B H B' H' → H p = none → B' p = none → OwAt G B' H' p z → Q (.ref p) H') → r x y H Q
theorem binF_tr {G : Gd} {W : WX} {r : R2} {g : D → D → Option D} {f1 f2 : Sto → M D} (hg : FI G r g) : ∀ σ H Q, TF G W (eBin g f1 f2) σ H Q → tOp r (TR G W f1) (TR G W f2) σ H Q := fun σ H Q ⟨B0, H0, B, ρ, S, q⟩ => by
  refine tr_i S (fun er he => ?_) fun x H1 B1 d x1 r1 e1 => tr_i (S.mono x1) (fun er he => ?_) fun y H2 B2 e x2 r2 e2 => ?_
  · have z : eBin g f1 f2 ρ = .error er := by unfold eBin; rw [he]; rfl
    rw [z] at q; exact q
  · have z : eBin g f1 f2 ρ = .error er := by unfold eBin; rw [e1, he]; rfl
    rw [z] at q; exact ErOk.mono q x1
  · have z : eBin g f1 f2 ρ = opt (g d e) := by unfold eBin; rw [e1, e2]; rfl
    rw [z] at q
    cases hz : g d e with
    | none => rw [hz] at q; exact q.elim
    | some w =>
      rw [hz] at q
      exact hg B2 H2 d e x y w Q x2.i' (r1.mono x2) r2 hz fun p B' H' x3 h1 h2 h3 => q p B' H' ((x1.trans x2).trans x3) ((x1.trans x2).fresh h1) h2 h3
def addL : D → D → Option D
  | .lst a, .lst b => if lim (a.length + b.length) then some (.lst (a ++ b)) else none
  | _, _ => none
def mulL : D → D → Option D
  | .lst a, .int k => if 0 ≤ k ∧ k ≤ 1000000 ∧ lim (a.length * k.toNat) then some (.lst (List.replicate k.toNat a).flatten) else none
  | _, _ => none
theorem fi_add {G : Gd} : FI G rCat addL := fun B H d e x y z Q s r1 r2 hz k => by
  unfold addL at hz
  split at hz
  · rename_i a b
    split at hz
    · rename_i hl
      cases hz
      obtain ⟨p, xs, rfl, h1, q1⟩ := rdb_lst s r1
      obtain ⟨p', ys, rfl, h2, q2⟩ := rdb_lst s r2
      exact ⟨p, p', xs, ys, rfl, rfl, h1, h2, by rw [reps_len q1, reps_len q2]; exact lim_of hl, fun w hw => k w B _ (Ext.own s hw) hw (none_of_same s hw) ⟨_, upd_same, reps_app q1 q2⟩⟩
    · cases hz
  · cases hz
theorem fi_mul {G : Gd} : FI G rRep mulL := fun B H d e x y z Q s r1 r2 hz k => by
  unfold mulL at hz
  split at hz
  · rename_i a b
    split at hz
    · rename_i c
      cases hz
      obtain ⟨p, xs, rfl, h1, q1⟩ := rdb_lst s r1
      exact ⟨p, b, xs, rfl, rdb_int r2, h1, by omega, by omega, by rw [reps_len q1]; exact lim_of c.2.2, fun w hw => k w B _ (Ext.own s hw) hw (none_of_same s hw) ⟨_, upd_same, reps_rep q1 _⟩⟩
    · cases hz
  · cases hz
section
variable {X : Cx} {W : WX} {a b c : Expr} {f1 f2 : Sto → M D} {pos : Pos}
theorem df_op {op : Operator} {r : R2} {g : D → D → Option D} (hg : FI (gd X) r g) (ho : OpR X (binaryOp op) r) (ha : PE X a (TR (gd X) W f1)) (hb : PE X b (TR (gd X) W f2)) : PE X (.BinOp a op b pos) (TF (gd X) W (eBin g f1 f2)) :=
  (pe_op ho ha hb).wk (binF_tr hg)
end
/-- a slice of a list is a new list -/
def sliceL : D → Option Int → Option Int → Option D
  | .lst ds, lo, hi => some (.lst (cut ds lo hi))
  | .fls ds, lo, hi => some (.lst (cut ds lo hi))
  | _, _, _ => none
def eSlL (f : Sto → M D) (lo hi : Sto → M (Option Int)) : Sto → M D := fun ρ => (f ρ).bind fun d => (lo ρ).bind fun l => (hi ρ).bind fun h => opt (sliceL d l h)
theorem df_sl {X : Cx} {W : WX} {e : Expr} {lo hi : Option Expr} {f : Sto → M D} {fl fh : Sto → M (Option Int)} {pos p2 : Pos} (he : PE X e (TR (gd X) W f)) (hl : PO X lo (TOD (gd X) W fl)) (hh : PO X hi (TOD (gd X) W fh)) : PE X (.Subscript e (.Slice lo hi none p2) pos) (TF (gd X) W (eSlL f fl fh)) := (pe_slice sl_list he hl hh).wk fun σ H Q ⟨B0, H0, B, ρ, S, q⟩ => by
  refine tr_i S (fun er h => ?_) fun x H1 B1 d x1 r1 e1 => to_i (S.mono x1) (fun er h => ?_) fun l H2 B2 x2 e2 => to_i ((S.mono x1).mono x2) (fun er h => ?_) fun u H3 B3 x3 e3 => ?_
  · have z : eSlL f fl fh ρ = .error er := by unfold eSlL; rw [h]; rfl
    rw [z] at q; exact q
  · have z : eSlL f fl fh ρ = .error er := by unfold eSlL; rw [e1, h]; rfl
    rw [z] at q; exact ErOk.mono q x1
  · have z : eSlL f fl fh ρ = .error er := by unfold eSlL; rw [e1, e2, h]; rfl
    rw [z] at q; exact ErOk.mono q (x1.trans x2)
  · have z : eSlL f fl fh ρ = opt (sliceL d l u) := by unfold eSlL; rw [e1, e2, e3]; rfl
    rw [z] at q
    have x13 := (x1.trans x2).trans x3
    have rr := (r1.mono x2).mono x3
    cases d with
    | lst ds =>
      obtain ⟨a, xs, rfl, h1, rs⟩ := rdb_lst x3.i' rr
      exact ⟨a, xs, rfl, .of h1, fun p hp => q p B3 _ (x13.trans (Ext.own x3.i' hp)) (x13.fresh hp) (none_of_same x3.i' hp) ⟨_, upd_same, reps_cut rs⟩⟩
    | fls ds =>
      obtain ⟨a, xs, rfl, h1, rs⟩ := rdb_fls x3.i' rr
      exact ⟨a, xs, rfl, h1, fun p hp => q p B3 _ (x13.trans (Ext.own x3.i' hp)) (x13.fresh hp) (none_of_same x3.i' hp) ⟨_, upd_same, reps_cut rs⟩⟩
    | _ => exact q.elim

/-! ### a def as a whole -/
def startS (n : Nat) (ds : List D) : Sto := ds.map (fun d => some (Sl.sh d)) ++ List.replicate (n - ds.length) none
def Res.out : Res → M D
  | .nx _ => .ok .non
  | .rt (.sh d) => .ok d
  | .rt (.ow d) => .ok d
  | .er e _ => .error e
  | _ => .error .stuck
def runD (n np : Nat) (g : Sto → Res) : List D → M D := fun ds => if ds.length = np then (g (startS n ds)).out else .error .stuck
theorem start_ok {G : Gd} {N : List Str} {B H : Hp} {ds : List D} {vs : List V} (s : Same B H) (r : Reps G B ds vs) : StOk G B H B H (start N vs) (startS N.length ds) := by
  have hl := reps_len r
  refine ⟨Ext.refl s, by unfold L2.start startS; simp [hl], fun i d h => ?_, fun i d h => ?_, fun i j d e p h => ?_⟩
  · unfold startS at h
    by_cases hi : i < ds.length
    · rw [List.getElem?_append_left (by simpa using hi), List.getElem?_map] at h
      cases hd : ds[i]? with
      | none => rw [hd] at h; cases h
      | some d' =>
        rw [hd] at h
        cases h
        obtain ⟨v, hv, rv⟩ := reps_get r hd
        refine ⟨v, ?_, rv⟩
        unfold L2.start
        rw [List.getElem?_append_left (by simpa [hl] using hi), List.getElem?_map, hv]
        rfl
    · rw [List.getElem?_append_right (by simpa using Nat.le_of_not_lt hi), List.getElem?_replicate] at h
      split at h <;> cases h
  · exfalso
    unfold startS at h
    by_cases hi : i < ds.length
    · rw [List.getElem?_append_left (by simpa using hi), List.getElem?_map] at h
      cases hd : ds[i]? with
      | none => rw [hd] at h; cases h
      | some d' => rw [hd] at h; cases h
    · rw [List.getElem?_append_right (by simpa using Nat.le_of_not_lt hi), List.getElem?_replicate] at h
      split at h <;> cases h
  · exfalso
    unfold startS at h
    by_cases hi : i < ds.length
    · rw [List.getElem?_append_left (by simpa using hi), List.getElem?_map] at h
      cases hd : ds[i]? with
      | none => rw [hd] at h; cases h
      | some d' => rw [hd] at h; cases h
    · rw [List.getElem?_append_right (by simpa using Nat.le_of_not_lt hi), List.getElem?_replicate] at h
      split at h <;> cases h
section
variable {P : Program} {w : World} {K : PySem.W.Frag} {mg : Str → Option Value} {base : Heap}
theorem body_ok {N ps : List Str} {g : Sto → Res} {vs : List V} {H : Hp} {Q : VK} {E : XK} (h : spD ⟨K, mg⟩ ps.length (runD N.length ps.length g) vs H Q E) : TSD ⟨K, mg⟩ (fun cls d _ H' => E cls d H') g { nx := fun _ H' => Q .non H', rt := Q } (start N vs) H := by
  obtain ⟨B, ds, hn, s, r, q⟩ := h
  refine ⟨B, H, B, startS N.length ds, start_ok s r, ?_⟩
  unfold runD at q
  rw [if_pos hn] at q
  cases hr : g (startS N.length ds) with
  | nx ρ => rw [hr] at q; exact fun σ B' H' S => q .non B' H' S.ext rep_non
  | rt sl =>
    rw [hr] at q
    cases sl with
    | sh d => exact fun v B' H' x r' => q v B' H' x r'
    | ow d =>
      intro p B' H' x h1 h2 h3
      obtain ⟨B2, x2, r2⟩ := freeze_rep x h1 h2 h3
      exact q _ B2 H' x2 r2
  | er e ρ =>
    rw [hr] at q
    intro σ B' H' S
    have q2 : ErOk ⟨K, mg⟩ (fun cls d _ H' => E cls d H') B H [] e := q
    have q3 := ErOk.mono q2 S.ext
    cases e with
    | stuck => exact q3
    | exc c a => exact q3
  | bk ρ => rw [hr] at q; exact q.elim
  | ct ρ => rw [hr] at q; exact q.elim
theorem fnd_ok {x qual : Str} {st : Stmt} {f : Addr} {fd : FuncData} {N ps : List Str} {k n : Nat} {m : List D → M D} {g : Sto → Res} (F : Fun K x qual st f fd) (gm : mg x = some (.ref f)) (b : Binds K fd ps []) (S : FnScope N ps (defScope st)) (hn : ps.length = n) (hm : m = runD N.length n g)
    (hb : ∀ (cdv : Value) (A : Around) (outer : List Env) (s : Shared) (H : Hp) (E : XK), Room k (A.deeper (envOfC qual (defScope st) s.heap.objs.size f cdv)) → PSs (cxOf (L2.CX P w) P w K mg base N qual (defScope st) f cdv A outer s H E) (defBody st) (TSD ⟨K, mg⟩ (fun cls d _ H' => E cls d H') g)) : FnD P w K mg base (k + 1) x n m := by
  subst hn hm
  refine ⟨f, fd, ps, F.okX S (fun vs H Q E h => ?_) (fun cdv A outer s H vs Q E hr h => ⟨_, hb cdv A outer s H E hr, body_ok h⟩), gm, F.kp, b⟩
  obtain ⟨B, ds, hn, _, r, _⟩ := h
  rw [reps_len r, hn]
theorem FnD.mono {j k : Nat} {x : Str} {n : Nat} {m : List D → M D} (F : FnD P w K mg base j x n m) (h : j ≤ k) : FnD P w K mg base k x n m :=
  let ⟨f, fd, ps, a, b⟩ := F.ex
  ⟨f, fd, ps, a.mono h, b⟩
end
end DL

namespace DL
open PySem PySem.Spec PyProof.Rows L2

/-! ### enumerate(zip(a, b)) -/
/-- the zip's own record; its first place tells whether the last pair is still held -/
def ZRec (h : Heap) (z TI TO : Addr) (f0 : Value) (b : Bool) : Prop := h.get? z = some { cls := .type "zip", dict := none, data := .fields #[f0, .bool b, .bool false, .ref TI, .ref TO], slots := #[] }
def Fr (f0 : Value) : Prop := f0 = .none ∨ ∃ T : Nat, f0 = rawInt T
/-- all of a zip over two lists -/
structure ZS (h : Heap) (z TI TO i1 i2 l1 l2 : Addr) (k : Nat) : Prop where
  rec_ : ∃ f0 b, Fr f0 ∧ ZRec h z TI TO f0 b
  tI : IsPair h TI (.ref i1) (.ref i2)
  tO : ∃ u v, IsPair h TO u v
  a1 : h.IsListIter i1 l1 k
  a2 : h.IsListIter i2 l2 k
section
variable {prog : Program} {w : World} {A : Around} {E : Value → Shared → Prop} {z TI TO i1 i2 l1 l2 : Addr} {k : Nat} {xs ys : Array Value} {x y : Value}
theorem alive_any {s : Shared} {a : Addr} {R : Option Obj → Shared → Prop} (h : R (s.heap.get? a) s) : wpAny (model prog w) A (loadIfAlive a) R E s := fun _ _ _ => h
theorem zs_free {hp : Heap} {g d tk os} {f0 : Value} {b : Bool} {R : Bool → Shared → Prop} (hz : hp.get? z = some { cls := .type "zip", dict := none, data := .fields #[f0, .bool b, .bool false, .ref TI, .ref TO], slots := #[] }) (hf : Fr f0) (r1 : R true ⟨hp, g, d, tk, os⟩)
    (r2 : ∀ hq, (∃ f b', Fr f ∧ ZRec hq z TI TO f b') → Heap.SameBut z hp hq → R false ⟨hq, g, d, tk, os⟩) : wpAny (model prog w) A (Builtin.SmallTypes.ownedTupleIsFree (.ref z)) R E ⟨hp, g, d, tk, os⟩ := by
  unfold Builtin.SmallTypes.ownedTupleIsFree
  rcases hf with rfl | ⟨T, rfl⟩
  · exact wpAny_bind (wpAny_field hz rfl (x := .none) rfl (wpAny_pure r1))
  · refine wpAny_bind (wpAny_field hz rfl (x := rawInt T) rfl ?_)
    show wpAny _ _ (loadIfAlive ((T : Int).toNat) >>= _) _ _ _
    refine wpAny_bind (m := loadIfAlive _) (alive_any ?_)
    split
    · exact wpAny_pure r1
    · refine wpAny_bind (wpAny_field hz rfl (x := .bool b) rfl ?_)
      dsimp only
      split
      · exact wpAny_bind (wpAny_setField_rec hz (by simp) fun hq zq sq => wpAny_pure (r2 hq ⟨rawInt T, true, .inr ⟨T, rfl⟩, zq⟩ sq))
      · exact wpAny_pure (r2 hp ⟨rawInt T, b, .inr ⟨T, rfl⟩, hz⟩ (Heap.SameBut.refl ..))
theorem zs_next {hp : Heap} {g d tk os} {Q : Value → Shared → Prop} (D : ZipApart z TI TO i1 i2 l1 l2) (Z : ZS hp z TI TO i1 i2 l1 l2 k) (hl1 : hp.IsList l1 xs) (hl2 : hp.IsList l2 ys) (hx : xs[k]? = some x) (hy : ys[k]? = some y)
    (hQ : ∀ h', ZS h' z TI TO i1 i2 l1 l2 (k + 1) → IsPair h' hp.objs.size x y → h'.objs.size = hp.objs.size + 1 → (∀ c o, c ≠ z → c ≠ TO → c ≠ i1 → c ≠ i2 → hp.get? c = some o → h'.get? c = some o) → Q (.ref hp.objs.size) ⟨h', g, d, tk, os⟩) :
    wpAny (model prog w) A (Builtin.SmallTypes.nextOf (.ref z)) Q E ⟨hp, g, d, tk, os⟩ := by
  obtain ⟨⟨f0, b, hf, hz⟩, hTI, ⟨u, v, hTO⟩, h1, h2⟩ := Z
  unfold ZRec at hz
  unfold Builtin.SmallTypes.nextOf
  refine wpAny_bind (wpAny_callSpecial?_slot (name := Str.ofString "__next__") ⟨_, hz, rfl⟩ F.slot_zip_next (wpAny_call_entry F.slot_zip_next ⟨_, hz, rfl⟩ F.entry_zip_next ?_ (F.args_zip_next_1 _)))
  show wpAny _ _ (field (.ref z) 2 >>= _) _ _ ⟨hp, g, d, tk, os⟩
  refine wpAny_bind (wpAny_field hz rfl (x := .bool false) rfl ?_)
  show wpAny _ _ (field (.ref z) 3 >>= _) _ _ ⟨hp, g, d, tk, os⟩
  refine wpAny_bind (wpAny_field hz rfl (x := .ref TI) rfl (wpAny_bind (wpAny_seqItems hTI rfl ?_)))
  show wpAny _ _ (Builtin.SmallTypes.ownedTupleIsFree (.ref z) >>= _) _ _ ⟨hp, g, d, tk, os⟩
  refine wpAny_bind ?_
  refine zs_free hz hf ?_ fun hq ⟨f', b', hf', zq⟩ sq => ?_
  · simp only [if_true]
    refine wpAny_bind (wpAny_rule (wpAny_bind (wpAny_field hz rfl (x := .ref TO) rfl (wpAny_bind (wpAny_setField_rec hz (by simp) fun g0 z0 s0 => ?_)))))
    replace z0 : ZRec g0 z TI TO .ellipsis b := z0
    replace s0 : Heap.SameBut z hp g0 := s0
    refine wpAny_bind ?_
    simp only [List.zipIdx_cons, List.zipIdx_nil, List.forIn_cons, List.forIn_nil]
    refine wpAny_bind (wpAny_bind (wpAny_onRaise ?_))
    show wpAny _ _ (Builtin.SmallTypes.nextOf (.ref i1) >>= _) _ _ ⟨g0, g, d, tk, os⟩
    refine wpAny_bind (wpAny_nextOf_list_item (s := ⟨g0, g, d, tk, os⟩) (h1.at fun o e => (s0.2 _ D.i1z).trans e) (hl1.at fun o e => (s0.2 _ D.l1z).trans e) hx fun p1 n1 b1 => wpAny_pure ?_)
    replace b1 : Heap.SameBut i1 g0 p1 := b1
    have t1 : IsPair p1 TO u v := (b1.2 _ D.TOi1).trans ((s0.2 _ D.TOz).trans hTO)
    refine wpAny_bind (wpAny_seqItems (s := ⟨p1, g, d, tk, os⟩) t1 rfl (wpAny_bind (wpAny_updateSeq_pair (s := ⟨p1, g, d, tk, os⟩) t1 fun g1 t2 b2 => ?_)))
    replace t2 : IsPair g1 TO x v := t2
    replace b2 : Heap.SameBut TO p1 g1 := b2
    refine wpAny_bind (wpAny_letGo (wpAny_pure (wpAny_bind (wpAny_bind (wpAny_onRaise ?_)))))
    show wpAny _ _ (Builtin.SmallTypes.nextOf (.ref i2) >>= _) _ _ ⟨g1, g, d, tk, os⟩
    have hk1 : ∀ c, c ≠ z → c ≠ TO → c ≠ i1 → g1.get? c = hp.get? c := fun c e1 e2 e3 => (b2.2 c e2).trans ((b1.2 c e3).trans (s0.2 c e1))
    refine wpAny_bind (wpAny_nextOf_list_item (s := ⟨g1, g, d, tk, os⟩) (h2.at fun o e => (hk1 _ D.i2z D.TOi2.symm D.i12.symm).trans e) (hl2.at fun o e => (hk1 _ D.l2z D.l2TO D.l2i1).trans e) hy fun p2 n2 b3 => wpAny_pure ?_)
    replace b3 : Heap.SameBut i2 g1 p2 := b3
    have t3 : IsPair p2 TO x v := (b3.2 _ D.TOi2).trans t2
    refine wpAny_bind (wpAny_seqItems (s := ⟨p2, g, d, tk, os⟩) t3 rfl (wpAny_bind (wpAny_updateSeq_pair (s := ⟨p2, g, d, tk, os⟩) t3 fun g2 t4 b4 => ?_)))
    replace t4 : IsPair g2 TO x y := t4
    replace b4 : Heap.SameBut TO p2 g2 := b4
    refine wpAny_bind (wpAny_letGo (wpAny_pure (wpAny_pure ?_)))
    refine wpAny_bind (wpAny_seqItems (s := ⟨g2, g, d, tk, os⟩) t4 rfl (wpAny_bind (wpAny_newTuple ?_)))
    have hsz : g2.objs.size = hp.objs.size := by rw [b4.1, b3.1, b2.1, b1.1, s0.1]
    have hk2 : ∀ c, c ≠ TO → c ≠ i2 → g2.get? c = g1.get? c := fun c e1 e2 => (b4.2 c e1).trans (b3.2 c e2)
    have z2 : ZRec g2 z TI TO .ellipsis b := (hk2 _ D.TOz.symm D.i2z.symm).trans ((b2.2 _ D.TOz.symm).trans ((b1.2 _ D.i1z.symm).trans z0))
    show wpAny _ _ (Builtin.SmallTypes.ownedTupleHandOut (.ref z) (.ref g2.objs.size) >>= _) _ _ ⟨g2.push { cls := .type "tuple", data := .seq #[x, y] }, g, d, tk, os⟩
    unfold Builtin.SmallTypes.ownedTupleHandOut
    have z3 : ZRec (g2.push { cls := .type "tuple", data := .seq #[x, y] }) z TI TO .ellipsis b := Heap.get?_push_of_some _ z2
    refine wpAny_bind (wpAny_bind (wpAny_setField_rec (s := ⟨g2.push { cls := .type "tuple", data := .seq #[x, y] }, g, d, tk, os⟩) z3 (by simp) fun g3 z4 b5 => ?_))
    replace z4 : ZRec g3 z TI TO (rawInt g2.objs.size) b := z4
    replace b5 : Heap.SameBut z (g2.push { cls := .type "tuple", data := .seq #[x, y] }) g3 := b5
    refine wpAny_setField_rec (s := ⟨g3, g, d, tk, os⟩) z4 (by simp) fun g4 z5 b6 => ?_
    replace z5 : ZRec g4 z TI TO (rawInt g2.objs.size) false := z5
    replace b6 : Heap.SameBut z g3 g4 := b6
    refine wpAny_pure ⟨_, rfl, wpAny_pure ?_⟩
    have up : ∀ c o, c ≠ z → g2.get? c = some o → g4.get? c = some o := fun c o e1 e2 => (b6.2 c e1).trans ((b5.2 c e1).trans (Heap.get?_push_of_some _ e2))
    have zl : z < g2.objs.size := Heap.lt_size z2
    have t5 : IsPair g4 g2.objs.size x y := (b6.2 _ (Nat.ne_of_gt zl)).trans ((b5.2 _ (Nat.ne_of_gt zl)).trans (Heap.get?_push_size _ rfl))
    have s4 : g4.objs.size = g2.objs.size + 1 := by rw [b6.1, b5.1, Heap.size_push]
    show Q (.ref g2.objs.size) ⟨g4, g, d, tk, os⟩
    rw [hsz] at t5 s4 ⊢
    refine hQ g4 ⟨⟨_, _, .inr ⟨_, rfl⟩, z5⟩, up _ _ D.TIz ((hk2 _ D.TITO D.TIi2).trans ((hk1 _ D.TIz D.TITO D.TIi1).trans hTI)), ⟨x, y, up _ _ D.TOz t4⟩, n1.at fun o e => up _ _ D.i1z ((hk2 _ D.TOi1.symm D.i12).trans ((b2.2 _ D.TOi1.symm).trans e)), n2.at fun o e => up _ _ D.i2z ((b4.2 _ D.TOi2.symm).trans e)⟩ t5 s4 fun c o c1 c2 c3 c4 e => up c o c1 ((hk2 c c2 c4).trans ((hk1 c c1 c2 c3).trans e))
  · simp only [Bool.false_eq_true, if_false]
    refine wpAny_bind ?_
    simp only [List.forIn_cons, List.forIn_nil, List.forIn_toArray]
    refine wpAny_bind (wpAny_bind (wpAny_holding ?_))
    show wpAny _ _ (Builtin.SmallTypes.nextOf (.ref i1) >>= _) _ _ ⟨hq, g, d, tk, os⟩
    refine wpAny_bind (wpAny_nextOf_list_item (s := ⟨hq, g, d, tk, os⟩) (h1.at fun o e => (sq.2 _ D.i1z).trans e) (hl1.at fun o e => (sq.2 _ D.l1z).trans e) hx fun p1 n1 b1 => wpAny_pure (wpAny_pure (wpAny_bind (wpAny_bind (wpAny_holding ?_)))))
    replace b1 : Heap.SameBut i1 hq p1 := b1
    show wpAny _ _ (Builtin.SmallTypes.nextOf (.ref i2) >>= _) _ _ ⟨p1, g, d, tk, os⟩
    have hk1 : ∀ c, c ≠ z → c ≠ i1 → p1.get? c = hp.get? c := fun c e1 e3 => (b1.2 c e3).trans (sq.2 c e1)
    refine wpAny_bind (wpAny_nextOf_list_item (s := ⟨p1, g, d, tk, os⟩) (h2.at fun o e => (hk1 _ D.i2z D.i12.symm).trans e) (hl2.at fun o e => (hk1 _ D.l2z D.l2i1).trans e) hy fun p2 n2 b3 => wpAny_pure (wpAny_pure (wpAny_pure ?_)))
    replace b3 : Heap.SameBut i2 p1 p2 := b3
    refine wpAny_bind (wpAny_newTuple (hsz := by show 2 ≤ sizeLine; decide) (wpAny_pure ⟨_, rfl, wpAny_pure ?_⟩))
    have hk2 : ∀ c o, c ≠ i2 → p1.get? c = some o → (p2.push { cls := .type "tuple", data := .seq #[x, y] }).get? c = some o := fun c o e1 e => Heap.get?_push_of_some _ ((b3.2 c e1).trans e)
    have hsz : p2.objs.size = hp.objs.size := by rw [b3.1, b1.1, sq.1]
    show Q (.ref p2.objs.size) ⟨p2.push { cls := .type "tuple", data := .seq #[x, y] }, g, d, tk, os⟩
    have t5 : IsPair (p2.push { cls := .type "tuple", data := .seq #[x, y] }) p2.objs.size x y := Heap.get?_push_size _ rfl
    have s4 : (p2.push { cls := .type "tuple", data := .seq #[x, y] }).objs.size = p2.objs.size + 1 := Heap.size_push ..
    rw [hsz] at t5 s4 ⊢
    exact hQ _ ⟨⟨f', b', hf', hk2 _ _ D.i2z.symm ((b1.2 _ D.i1z.symm).trans zq)⟩, hk2 _ _ D.TIi2 ((hk1 _ D.TIz D.TIi1).trans hTI), ⟨u, v, hk2 _ _ D.TOi2 ((hk1 _ D.TOz D.TOi1).trans hTO)⟩, n1.at fun o e => hk2 _ _ D.i12 e, n2.at fun o e => Heap.get?_push_of_some _ e⟩ t5 s4 fun c o c1 c2 c3 c4 e => hk2 c o c4 ((hk1 c c1 c3).trans e)
theorem zs_end {hp : Heap} {g d tk os} {Q : Value → Shared → Prop} (hh : A.handled = none) (D : ZipApart z TI TO i1 i2 l1 l2) (Z : ZS hp z TI TO i1 i2 l1 l2 k) (hl1 : hp.IsList l1 xs) (hx : xs[k]? = none)
    (hE : ∀ h' e, (∀ c o, c ≠ z → c ≠ TO → c ≠ i1 → c ≠ i2 → hp.get? c = some o → h'.get? c = some o) → (∃ o, h'.get? e = some o ∧ o.cls = .type "StopIteration") → E (.ref e) ⟨h', g, d, tk, os⟩) :
    wpAny (model prog w) A (Builtin.SmallTypes.nextOf (.ref z)) Q E ⟨hp, g, d, tk, os⟩ := by
  obtain ⟨⟨f0, b, hf, hz⟩, hTI, ⟨u, v, hTO⟩, h1, h2⟩ := Z
  unfold ZRec at hz
  unfold Builtin.SmallTypes.nextOf
  refine wpAny_bind (wpAny_callSpecial?_slot (name := Str.ofString "__next__") ⟨_, hz, rfl⟩ F.slot_zip_next (wpAny_call_entry F.slot_zip_next ⟨_, hz, rfl⟩ F.entry_zip_next ?_ (F.args_zip_next_1 _)))
  show wpAny _ _ (field (.ref z) 2 >>= _) _ _ ⟨hp, g, d, tk, os⟩
  refine wpAny_bind (wpAny_field hz rfl (x := .bool false) rfl ?_)
  show wpAny _ _ (field (.ref z) 3 >>= _) _ _ ⟨hp, g, d, tk, os⟩
  refine wpAny_bind (wpAny_field hz rfl (x := .ref TI) rfl (wpAny_bind (wpAny_seqItems hTI rfl ?_)))
  show wpAny _ _ (Builtin.SmallTypes.ownedTupleIsFree (.ref z) >>= _) _ _ ⟨hp, g, d, tk, os⟩
  refine wpAny_bind ?_
  refine zs_free hz hf ?_ fun hq ⟨f', b', hf', zq⟩ sq => ?_
  · simp only [if_true]
    refine wpAny_bind (wpAny_rule (wpAny_bind (wpAny_field hz rfl (x := .ref TO) rfl (wpAny_bind (wpAny_setField_rec hz (by simp) fun g0 z0 s0 => ?_)))))
    replace z0 : ZRec g0 z TI TO .ellipsis b := z0
    replace s0 : Heap.SameBut z hp g0 := s0
    refine wpAny_bind ?_
    simp only [List.zipIdx_cons, List.zipIdx_nil, List.forIn_cons, List.forIn_nil]
    refine wpAny_bind (wpAny_bind (wpAny_onRaise ?_))
    show wpAny _ _ (Builtin.SmallTypes.nextOf (.ref i1) >>= _) _ _ ⟨g0, g, d, tk, os⟩
    refine wpAny_bind (wpAny_nextOf_list_end hh (s := ⟨g0, g, d, tk, os⟩) (h1.at fun o e => (s0.2 _ D.i1z).trans e) (hl1.at fun o e => (s0.2 _ D.l1z).trans e) hx fun q e hq he => ?_)
    obtain ⟨oe, hoe, hce⟩ := he
    replace hoe : q.get? e = some oe := hoe
    have zq : ZRec q z TI TO .ellipsis b := hq _ _ D.i1z.symm z0
    have hez : e ≠ z := fun x => by subst x; unfold ZRec at zq; rw [zq] at hoe; cases hoe; simp at hce
    refine wpAny_setField_rec (s := ⟨q, g, d, tk, os⟩) zq (by simp) fun q' _ hq' => ?_
    replace hq' : Heap.SameBut z q q' := hq'
    exact hE q' e (fun c o c1 c2 c3 c4 x => (hq'.2 c c1).trans (hq _ _ c3 ((s0.2 c c1).trans x))) ⟨oe, (hq'.2 e hez).trans hoe, hce⟩
  · simp only [Bool.false_eq_true, if_false]
    refine wpAny_bind ?_
    simp only [List.forIn_cons, List.forIn_nil, List.forIn_toArray]
    refine wpAny_bind (wpAny_bind (wpAny_holding ?_))
    show wpAny _ _ (Builtin.SmallTypes.nextOf (.ref i1) >>= _) _ _ ⟨hq, g, d, tk, os⟩
    refine wpAny_bind (wpAny_nextOf_list_end hh (s := ⟨hq, g, d, tk, os⟩) (h1.at fun o e => (sq.2 _ D.i1z).trans e) (hl1.at fun o e => (sq.2 _ D.l1z).trans e) hx fun q e hq2 he => ?_)
    exact hE q e (fun c o c1 c2 c3 c4 x => hq2 _ _ c3 ((sq.2 c c1).trans x)) he
end
/-! .. one enumerate further -/
section
variable {prog : Program} {w : World} {A : Around} {E : Value → Shared → Prop} {hp : Heap} {g : Array GenState} {d : Drawn} {tk : Nat} {os : OsState} {e it : Addr} {c : Int} {old : Value}
theorem en_next {Po : Value → Heap → Prop} {Q : Option Value → Shared → Prop} (he : IsEnum hp e it c old)
    (hn : ∀ {A' : Around} {E' : Value → Shared → Prop} (R : Value → Shared → Prop), A'.handled = A.handled → (∀ x h', Po x h' → R x ⟨h', g, d, tk, os⟩) → wpAny (model prog w) A' (Builtin.SmallTypes.nextOf (.ref it)) R E' ⟨hp, g, d, tk, os⟩) (hk : ∀ x h', Po x h' → IsEnum h' e it c old)
    (hQ : ∀ x h1 h', Po x h1 → IsEnumOut h' e it (c + 1) x h1.objs.size → IsPair h' h1.objs.size (.int c tk) x → h'.objs.size = h1.objs.size + 1 → (∀ b o, b ≠ e → h1.get? b = some o → h'.get? b = some o) → Q (some (.ref h1.objs.size)) ⟨h', g, d, tk + 1, os⟩) :
    wpAny (model prog w) A (pyNext (.ref e)) Q E ⟨hp, g, d, tk, os⟩ := by
  have hT : (⟨hp, g, d, tk, os⟩ : Shared).TypeIs (.ref e) "enumerate" := ⟨_, he, rfl⟩
  unfold pyNext
  refine wpAny_bind (wpAny_attempt (wpAny_callSpecial?_slot (name := Str.ofString "__next__") hT F.slot_enumerate_next (wpAny_call_entry F.slot_enumerate_next hT F.entry_enumerate_next ?_ (F.args_enumerate_next_1 _))))
  show wpAny _ _ (field (.ref e) 2 >>= _) _ _ _
  refine wpAny_bind (wpAny_field he rfl (x := .ref it) rfl (wpAny_bind (hn _ rfl fun x h1 po => ?_)))
  have e1 := hk x h1 po
  show wpAny _ _ (field (.ref e) 3 >>= _) _ _ ⟨h1, g, d, tk, os⟩
  refine wpAny_bind (wpAny_field e1 rfl (x := rawInt c) rfl ?_)
  show wpAny _ _ (field (.ref e) 4 >>= _) _ _ ⟨h1, g, d, tk, os⟩
  refine wpAny_bind (wpAny_field e1 rfl (x := .none) rfl ?_)
  show wpAny _ _ (mkInt c >>= _) _ _ ⟨h1, g, d, tk, os⟩
  refine wpAny_bind (wpAny_mkInt ?_)
  show wpAny _ _ (setField (.ref e) 3 (rawInt (c + 1)) >>= _) _ _ ⟨h1, g, d, tk + 1, os⟩
  refine wpAny_bind (wpAny_setField_rec e1 (by simp) fun h2 e2 s2 => ?_)
  replace s2 : Heap.SameBut e h1 h2 := s2
  replace e2 : IsEnum h2 e it (c + 1) old := e2
  show wpAny _ _ (setField (.ref e) 4 .none >>= _) _ _ ⟨h2, g, d, tk + 1, os⟩
  refine wpAny_bind (wpAny_setField_rec e2 (by simp) fun h3 e3 s3 => ?_)
  replace s3 : Heap.SameBut e h2 h3 := s3
  replace e3 : IsEnum h3 e it (c + 1) old := e3
  show wpAny _ _ (newTuple [.int c tk, x] >>= _) _ _ ⟨h3, g, d, tk + 1, os⟩
  refine wpAny_bind (wpAny_newTuple ?_)
  have e4 : IsEnum (h3.push { cls := .type "tuple", data := .seq #[.int c tk, x] }) e it (c + 1) old := Heap.get?_push_of_some _ e3
  have t4 : IsPair (h3.push { cls := .type "tuple", data := .seq #[.int c tk, x] }) h3.objs.size (.int c tk) x := Heap.get?_push_size _ rfl
  have z4 : (h3.push { cls := .type "tuple", data := .seq #[.int c tk, x] }).objs.size = h3.objs.size + 1 := Heap.size_push ..
  have k4 : ∀ b o, b ≠ e → h1.get? b = some o → (h3.push { cls := .type "tuple", data := .seq #[.int c tk, x] }).get? b = some o := fun b o n y => Heap.get?_push_of_some _ ((s3.2 b n).trans ((s2.2 b n).trans y))
  have hs : h3.objs.size = h1.objs.size := by rw [s3.1, s2.1]
  have hel : e < h3.objs.size := Heap.lt_size e3
  show wpAny _ _ (Builtin.SmallTypes.ownedTupleIsFree (.ref e) >>= _) _ _ ⟨h3.push { cls := .type "tuple", data := .seq #[.int c tk, x] }, g, d, tk + 1, os⟩
  generalize h3.push { cls := .type "tuple", data := .seq #[.int c tk, x] } = h4 at e4 t4 z4 k4
  unfold Builtin.SmallTypes.ownedTupleIsFree
  refine wpAny_bind (wpAny_bind (wpAny_field e4 rfl (x := .none) rfl (wpAny_pure ?_)))
  simp only [if_true]
  refine wpAny_bind (wpAny_rule (wpAny_bind (wpAny_field e4 rfl (x := old) rfl (wpAny_bind (wpAny_setField_rec e4 (by simp) fun h5 e5 s5 => ?_)))))
  replace s5 : Heap.SameBut e h4 h5 := s5
  replace e5 : IsEnum h5 e it (c + 1) x := e5
  show wpAny _ _ (Builtin.SmallTypes.ownedTupleHandOut (.ref e) (.ref h3.objs.size) >>= _) _ _ ⟨h5, g, d, tk + 1, os⟩
  unfold Builtin.SmallTypes.ownedTupleHandOut
  refine wpAny_bind (wpAny_bind (wpAny_setField_rec e5 (by simp) fun h6 e6 s6 => ?_))
  replace s6 : Heap.SameBut e h5 h6 := s6
  replace e6 : IsEnumOut h6 e it (c + 1) x h3.objs.size := e6
  refine wpAny_setField_rec e6 (by simp) fun h7 e7 s7 => ?_
  replace s7 : Heap.SameBut e h6 h7 := s7
  replace e7 : IsEnumOut h7 e it (c + 1) x h3.objs.size := e7
  refine wpAny_bind (wpAny_letGo (wpAny_pure ⟨_, rfl, wpAny_pure ?_⟩))
  have up : ∀ b o, b ≠ e → h4.get? b = some o → h7.get? b = some o := fun b o n y => (s7.2 b n).trans ((s6.2 b n).trans ((s5.2 b n).trans y))
  have t7 : IsPair h7 h3.objs.size (.int c tk) x := up _ _ (Nat.ne_of_gt hel) t4
  have z7 : h7.objs.size = h3.objs.size + 1 := by rw [s7.1, s6.1, s5.1, z4]
  show Q (some (.ref h3.objs.size)) ⟨h7, g, d, tk + 1, os⟩
  rw [hs] at e7 t7 z7 ⊢
  exact hQ x h1 h7 po e7 t7 z7 fun b o n y => up b o n (k4 b o n y)
theorem en_end {Po : Heap → Prop} {Q : Option Value → Shared → Prop} (he : IsEnum hp e it c old)
    (hn : ∀ {A' : Around} {E' : Value → Shared → Prop} (R : Value → Shared → Prop), A'.handled = A.handled → (∀ h' x, Po h' → (∃ o, h'.get? x = some o ∧ o.cls = .type "StopIteration") → E' (.ref x) ⟨h', g, d, tk, os⟩) → wpAny (model prog w) A' (Builtin.SmallTypes.nextOf (.ref it)) R E' ⟨hp, g, d, tk, os⟩)
    (hQ : ∀ h', Po h' → Q none ⟨h', g, d, tk, os⟩) : wpAny (model prog w) A (pyNext (.ref e)) Q E ⟨hp, g, d, tk, os⟩ := by
  have hT : (⟨hp, g, d, tk, os⟩ : Shared).TypeIs (.ref e) "enumerate" := ⟨_, he, rfl⟩
  unfold pyNext
  refine wpAny_bind (wpAny_attempt (wpAny_callSpecial?_slot (name := Str.ofString "__next__") hT F.slot_enumerate_next (wpAny_call_entry F.slot_enumerate_next hT F.entry_enumerate_next ?_ (F.args_enumerate_next_1 _))))
  show wpAny _ _ (field (.ref e) 2 >>= _) _ _ _
  refine wpAny_bind (wpAny_field he rfl (x := .ref it) rfl (wpAny_bind (hn _ rfl fun h' x po ⟨o, ho, hc⟩ => ?_)))
  exact wpAny_bind (wpAny_isInstance (T := "StopIteration") (b := true) ⟨o, ho, hc⟩ isSubtype_stop (wpAny_pure (hQ _ po)))
end
end DL

namespace DL
open PySem PySem.Spec PyProof.Rows L2

theorem meets_enum_self (z TI TO : Addr) (f0 : Value) : Meets (Builtin.«enumerate.__new__» ⟨[.type "enumerate", .ref z], []⟩) (fun _ R s => IsZip s.heap z TI TO f0 ∧
    R (.ok (.ret (.ref s.heap.objs.size))) { s with heap := s.heap.push { cls := .type "enumerate", data := .fields #[.none, .bool false, .ref z, rawInt 0, .none, .none] } }) :=
  .of_wp fun prog w A R s h => by
    obtain ⟨hp, g, d, tk, os⟩ := s
    obtain ⟨hz, h⟩ := h
    have hsub := sub_enumerate
    have q1 : ∀ {A' : Around} {E : Value → Shared → Prop} {Q : Value → Shared → Prop}, Q (.ref z) ⟨hp, g, d, tk, os⟩ → wpAny (model prog w) A' (pyIter (.ref z)) Q E ⟨hp, g, d, tk, os⟩ := fun q => wpAny_pyIter_zip hz q
    wp_walk using q1
    refine wpAny_stack_any fun st => wpAny_pure ?_
    split
    · rename_i c _ _ _ _ _
      cases (c == Value.type "enumerate")
      · wp_walk using q1
        exact ⟨_, rfl, h⟩
      · wp_walk using q1
        exact ⟨_, rfl, h⟩
    · wp_walk using q1
      exact ⟨_, rfl, h⟩
theorem call_enum_self {prog : Program} {w : World} {A : Around} {E : Value → Shared → Prop} {s : Shared} {z TI TO : Addr} {f0 : Value} {Q : Value → Shared → Prop} (hz : IsZip s.heap z TI TO f0)
    (h : ∀ h', IsEnum h' s.heap.objs.size z 0 .none → (∀ b o, s.heap.get? b = some o → h'.get? b = some o) → Q (.ref s.heap.objs.size) { s with heap := h' }) : wpAny (model prog w) A (call (.type "enumerate") [.ref z]) Q E s := by
  refine callType_new F.called_enumerate (by decide) (F.typeCall_enumerate_1 _) (F.newCall_enumerate_1 _) (fun obj => F.args_object_init_2 obj _) F.entry_enumerate_new (meets_enum_self z TI TO f0) ⟨hz, ?_⟩
  have he : IsEnum (s.heap.push { cls := .type "enumerate", data := .fields #[.none, .bool false, .ref z, rawInt 0, .none, .none] }) s.heap.objs.size z 0 .none := Heap.get?_push_size _ rfl
  exact ⟨⟨_, he, rfl⟩, h _ he fun b o x => Heap.get?_push_of_some _ x⟩

/-- the lists at a and b, of one length, item by item, each with its number ahead -/
def Itez (K : PySem.W.Frag) (a b : Addr) : It :=
  ⟨fun i H => ∃ (xs ys : List V) (x y : V), SqL K H a xs ∧ SqL K H b ys ∧ xs[i]? = some x ∧ ys[i]? = some y,
    fun i H v H' => ∃ T T2 x y, v = .ref T2 ∧ H T = none ∧ T2 ≠ T ∧ H T2 = none ∧ H' = upd (upd H T (.tup [x, y])) T2 (.tup [.int (i : Nat), .ref T]) ∧ (∀ xs, SqL K H a xs → xs[i]? = some x) ∧ ∀ ys, SqL K H b ys → ys[i]? = some y,
    fun i H => ∃ xs : List V, SqL K H a xs ∧ xs.length ≤ i ∧ ∃ ys : List V, SqL K H b ys⟩
theorem zs_keep {h h' : Heap} {z TI TO i1 i2 l1 l2 : Addr} {k : Nat} (Z : ZS h z TI TO i1 i2 l1 l2 k) (kp : ∀ b ∈ [z, TI, TO, i1, i2], ∀ o, h.get? b = some o → h'.get? b = some o) : ZS h' z TI TO i1 i2 l1 l2 k := by
  obtain ⟨⟨f0, b, hf, hz⟩, hTI, ⟨u, v, hTO⟩, h1, h2⟩ := Z
  exact ⟨⟨f0, b, hf, kp z (by simp) _ hz⟩, kp TI (by simp) _ hTI, ⟨u, v, kp TO (by simp) _ hTO⟩, h1.at fun o e => kp i1 (by simp) o e, h2.at fun o e => kp i2 (by simp) o e⟩
theorem zs_lt {h : Heap} {z TI TO i1 i2 l1 l2 : Addr} {k : Nat} (Z : ZS h z TI TO i1 i2 l1 l2 k) : ∀ c ∈ [z, TI, TO, i1, i2], ∃ o, h.get? c = some o ∧ ∀ v, o.data ≠ .cell v := fun c hc => by
  obtain ⟨⟨f0, b, hf, hz⟩, hTI, ⟨u, v, hTO⟩, ⟨o1, e1, _, d1⟩, ⟨o2, e2, _, d2⟩⟩ := Z
  simp only [List.mem_cons, List.not_mem_nil, or_false] at hc
  rcases hc with q | q | q | q | q <;> subst q
  · exact ⟨_, hz, fun v q => nomatch q⟩
  · exact ⟨_, hTI, fun v q => nomatch q⟩
  · exact ⟨_, hTO, fun v q => nomatch q⟩
  · exact ⟨o1, e1, fun v q => by rw [d1] at q; cases q⟩
  · exact ⟨o2, e2, fun v q => by rw [d2] at q; cases q⟩
theorem turn_ez {P : Program} {w : World} {K : PySem.W.Frag} {elts : List Expr} {kk : Nat} {tpos : Pos} {a b z TI TO i1 i2 e : Addr} (D : ZipApart z TI TO i1 i2 a b) (he5 : e ∉ [z, TI, TO, i1, i2]) :
    Turn P w K (.Tuple elts kk tpos) (Itez K a b) (e :: [z, TI, TO, i1, i2]) e (fun i h => (∃ old, IsEnum h e z ((i : Nat) : Int) old) ∧ ZS h z TI TO i1 i2 a b i) where
  mem := List.mem_cons_self ..
  obj := fun i h st c hc => by
    obtain ⟨⟨old, he⟩, Z⟩ := st
    rcases List.mem_cons.mp hc with q | q
    · subst q; exact ⟨_, he, fun v q => nomatch q⟩
    · exact zs_lt Z c q
  keep := fun i h h' st k => by
    obtain ⟨⟨old, he⟩, Z⟩ := st
    exact ⟨⟨old, k e (List.mem_cons_self ..) _ he⟩, zs_keep Z fun b hb o q => k b (List.mem_cons_of_mem _ hb) o q⟩
  item := by
    intro X hP hw hK hc i pins s σ H E I hf st hg
    subst hP hw hK
    obtain ⟨⟨old, he⟩, Z⟩ := st
    obtain ⟨xs, ys, x, y, hqx, hqy, hx, hy⟩ := hg
    obtain ⟨its, rv, p, _⟩ := I.list hqx
    obtain ⟨its2, rv2, p2, _⟩ := I.list hqy
    obtain ⟨u, hu, ru⟩ := rv.get hx
    obtain ⟨u2, hu2, ru2⟩ := rv2.get hy
    obtain ⟨hp, g, d, tk, os⟩ := s
    have hf5 : ∀ c ∈ [z, TI, TO, i1, i2], FpOk X pins H c := fun c hc => hf c (List.mem_cons_of_mem _ hc)
    have hne : ∀ c ∈ [z, TI, TO, i1, i2], c ≠ e := fun c hc q => he5 (q ▸ hc)
    refine en_next (Po := fun v h1 => v = .ref hp.objs.size ∧ ZS h1 z TI TO i1 i2 a b (i + 1) ∧ IsPair h1 hp.objs.size u u2 ∧ h1.objs.size = hp.objs.size + 1 ∧ ∀ c o, c ≠ z → c ≠ TO → c ≠ i1 → c ≠ i2 → hp.get? c = some o → h1.get? c = some o) he (fun R _ k => ?_) (fun v h1 po => ?_) fun v h1 h' po eo tp sz k2 => ?_
    · exact zs_next D Z p.isList p2.isList (x := u) (y := u2) (by simpa using hu) (by simpa using hu2) fun h1 z1 t1 s1 k1 => k _ h1 ⟨rfl, z1, t1, s1, k1⟩
    · obtain ⟨_, _, _, _, k1⟩ := po
      exact k1 e _ (fun q => hne z (by simp) q.symm) (fun q => hne TO (by simp) q.symm) (fun q => hne i1 (by simp) q.symm) (fun q => hne i2 (by simp) q.symm) he
    · obtain ⟨rfl, z1, t1, s1, k1⟩ := po
      have new1 : ObjOk X.prog X.w (upd H hp.objs.size (.tup [x, y])) h1 hp.objs.size (.tup [x, y]) :=
        ⟨by show 2 ≤ sizeLine; decide, [u, u2], .cons ru (.cons ru2 .nil), ⟨_, t1, rfl, _, rfl⟩⟩
      have I1 : Inv X pins σ (upd H hp.objs.size (.tup [x, y])) ⟨h1, g, d, tk, os⟩ := I.turnedNew (t' := tk) (ch := [z, TI, TO, i1, i2])
        (fun c o hb q => k1 c o (fun q' => hb (by simp [q'])) (fun q' => hb (by simp [q'])) (fun q' => hb (by simp [q'])) (fun q' => hb (by simp [q'])) q) hf5 (Nat.le_refl _) new1
      have lt5 : ∀ c ∈ e :: [z, TI, TO, i1, i2], c < hp.objs.size := fun c hc => by
        rcases List.mem_cons.mp hc with q | q
        · subst q; exact Heap.lt_size he
        · obtain ⟨o, ho, _⟩ := zs_lt Z c q
          exact Heap.lt_size ho
      have n0 : H hp.objs.size = none := I.hok.fresh (Nat.le_refl _)
      have nT : H h1.objs.size = none := I.hok.fresh (by show hp.objs.size ≤ h1.objs.size; omega)
      have hfe : FpOk X pins (upd H hp.objs.size (.tup [x, y])) e := ⟨by rw [upd_ne (Nat.ne_of_lt (lt5 e (by simp)))]; exact (hf e (by simp)).1, (hf e (by simp)).2⟩
      refine ⟨_, rfl, wpAny_letOwnedTupleGo_enum (s := ⟨h', g, d, tk + 1, os⟩) eo fun h2 e2 sb => ?_⟩
      replace sb : Heap.SameBut e h' h2 := sb
      have le1 : hp.objs.size ≤ h1.objs.size := by omega
      have ne1 : hp.objs.size < h1.objs.size := by omega
      have lt1 : e < h1.objs.size := Nat.lt_of_lt_of_le (lt5 e (by simp)) le1
      have tp2 : IsPair h2 h1.objs.size (.int ((i : Nat) : Int) tk) (.ref hp.objs.size) := (sb.2 _ (Nat.ne_of_gt lt1)).trans tp
      have new2 : ObjOk X.prog X.w (upd (upd H hp.objs.size (.tup [x, y])) h1.objs.size (.tup [.int (i : Nat), .ref hp.objs.size])) h2 h1.objs.size (.tup [.int (i : Nat), .ref hp.objs.size]) :=
        ⟨by show 2 ≤ sizeLine; decide, [.int ((i : Nat) : Int) tk, .ref hp.objs.size], .cons ⟨_, rfl⟩ (.cons rfl .nil), ⟨_, tp2, rfl, _, rfl⟩⟩
      have I2 := I1.turnedNew (t' := tk + 1) (ch := [e]) (h' := h2) (fun c o hb q => (sb.2 c (fun z => hb (by simp [z]))).trans (k2 c o (fun z => hb (by simp [z])) q)) (fun c hc => by
        rw [List.mem_singleton.mp hc]; exact hfe) (Nat.le_refl _) new2
      refine ⟨.ref h1.objs.size, _, I2, rfl, ⟨hp.objs.size, h1.objs.size, x, y, rfl, n0, Nat.ne_of_gt ne1, nT, rfl, fun l hl => by rw [I.list_inj hl hqx]; exact hx, fun l hl => by rw [I.list_inj hl hqy]; exact hy⟩, ⟨⟨.ref hp.objs.size, ?_⟩, zs_keep z1 fun c hc o q => (sb.2 c (hne c hc)).trans (k2 c o (hne c hc) q)⟩, fun c hc => ?_⟩
      · have e1 : ((i + 1 : Nat) : Int) = (i : Int) + 1 := by omega
        rw [e1]
        exact e2
      · have l1 := lt5 c hc
        rw [upd_ne (Nat.ne_of_lt (Nat.lt_of_lt_of_le l1 le1)), upd_ne (Nat.ne_of_lt l1)]
        exact (hf c hc).1
  done := by
    intro X hP hw hK hc i pins s σ H E I hf st hg
    subst hP hw hK
    obtain ⟨⟨old, he⟩, Z⟩ := st
    obtain ⟨xs, hqx, hx, _⟩ := hg
    obtain ⟨its, rv, p, _⟩ := I.list hqx
    obtain ⟨hp, g, d, tk, os⟩ := s
    have hl := rv.length
    refine en_end (Po := fun h1 => ∀ c o, c ≠ z → c ≠ TO → c ≠ i1 → c ≠ i2 → hp.get? c = some o → h1.get? c = some o) he (fun R hh k => ?_) fun h1 k1 => ⟨rfl, ?_⟩
    · exact zs_end (hh.trans (I.ok.hd hc)) D Z p.isList (by simp; omega) fun h1 x k1 hx => k h1 x k1 hx
    · exact I.turnedL (t' := tk) (ch := [z, TI, TO, i1, i2]) (fun c o hb q => k1 c o (fun q' => hb (by simp [q'])) (fun q' => hb (by simp [q'])) (fun q' => hb (by simp [q'])) (fun q' => hb (by simp [q'])) q) fun c hc => hf c (List.mem_cons_of_mem _ hc)
  self := fun A i s Q E st h => let ⟨⟨_, he⟩, _⟩ := st; wpAny_pyIter_enum he h
def iEnumZip (K : PySem.W.Frag) (ta : TA) : TI := fun σ H R => ta σ H fun vs H1 => ∃ a b xs ys, vs = [.ref a, .ref b] ∧ SqL K H1 a xs ∧ SqL K H1 b ys ∧ R (Itez K a b) H1
theorem pi_ez {X : Cx} {x1 x2 : Expr} {ta : TA} {p p2 pos pos2 tpos : Pos} {elts : List Expr} {kk : Nat} (hg : Gl X "enumerate") (hm : X.mg "enumerate" = none) (hg2 : Gl X "zip") (hm2 : X.mg "zip" = none) (ha : PA X [x1, x2] ta)
    (hs : starEach [x1, x2] X.env = (false, eval x1 X.env) :: starEach [x2] X.env := by rfl) (hpl : (backTo pos2 (starEach [x2] X.env)).any (·.1) = false := by rfl)
    (hs2 : starEach [.Call (.Name "zip" p2) [x1, x2] [] pos2] X.env = (false, eval (.Call (.Name "zip" p2) [x1, x2] [] pos2) X.env) :: starEach [] X.env := by rfl) :
    PI X (.Tuple elts kk tpos) (.Call (.Name "enumerate" p) [.Call (.Name "zip" p2) [x1, x2] [] pos2] [] pos) (iEnumZip X.K ta) := by
  refine ⟨fun pins s σ H R I h => ?_⟩
  refine Call_ (ld_blt I hg hm boot_enumerate (PyProof.Rows.callWith_type1 ?_ hs2 (by rfl)))
  rw [hs2]
  show wpAny _ _ (spliced ((false, eval (.Call (.Name "zip" p2) [x1, x2] [] pos2) X.env) :: backTo pos (starEach [] X.env))) _ _ s
  refine Calls.spliced_cons ?_
  refine Call_ (ld_blt I hg2 hm2 PyProof.Rows.boot_zip (PyProof.Rows.callWith_type1 (thn (ha.run pos2 pins s σ H _ I h) fun us s1 ⟨vs, H1, I1, r1, q1⟩ => ?_) hs hpl))
  obtain ⟨a, b, xs, ys, ex, hqx, hqy, q⟩ := q1
  subst ex
  cases r1 with
  | cons r rr =>
    cases rr with
    | cons r' rr =>
      cases rr
      cases r
      cases r'
      obtain ⟨its, rv, p1, _⟩ := I1.list hqx
      obtain ⟨its2, rv2, p3, _⟩ := I1.list hqy
      refine call_zip_2 p1.isList p3.isList fun h1 hz hTI hTO a1 a2 hsz hk => ?_
      refine Calls.spliced_nil (call_enum_self (s := { s1 with heap := h1 }) hz fun h2 he k2 => ?_)
      replace he : IsEnum h2 h1.objs.size (s1.heap.objs.size + 4) 0 .none := he
      replace k2 : ∀ b o, h1.get? b = some o → h2.get? b = some o := k2
      refine wpAny_pyIter_enum he ?_
      have I2 : Inv X pins σ H1 { s1 with heap := h2 } := I1.kept (t' := s1.toks) fun b o q => k2 b o (hk b o q)
      have e5 : h1.objs.size ∉ [s1.heap.objs.size + 4, s1.heap.objs.size + 2, s1.heap.objs.size + 3, s1.heap.objs.size, s1.heap.objs.size + 1] := fun z => by
        simp only [List.mem_cons, List.not_mem_nil, or_false] at z
        omega
      refine ⟨h1.objs.size, _, _, _, H1, rfl, I2, turn_ez (PySem.W.ktu_apart s1.heap.objs.size a b p1.lt p3.lt) e5, ⟨⟨.none, he⟩, zs_keep (h := h1) ⟨⟨.none, false, .inl rfl, hz⟩, hTI, ⟨_, _, hTO⟩, a1, a2⟩ fun c _ o q => k2 c o q⟩, fun c hcm => ?_, q⟩
      have hle : s1.heap.objs.size ≤ c := by
        simp only [List.mem_cons, List.not_mem_nil, or_false] at hcm
        rcases hcm with z | z | z | z | z | z <;> rw [z]
        · omega
        · exact Nat.le_add_right _ _
        · exact Nat.le_add_right _ _
        · exact Nat.le_add_right _ _
        · exact Nat.le_refl _
        · exact Nat.le_add_right _ _
      exact I1.fpOk hle (I1.hok.fresh hle)

/-! ### in the data layer -/
def zipI : Nat → List D → List D → List D
  | i, x :: xs, y :: ys => .tup [.int (i : Nat), .tup [x, y]] :: zipI (i + 1) xs ys
  | _, _, _ => []
theorem zipI_len : ∀ (i : Nat) (xs ys : List D), xs.length = ys.length → (zipI i xs ys).length = xs.length
  | _, [], ys, _ => by unfold zipI; rfl
  | i, x :: xs, [], h => by simp at h
  | i, x :: xs, y :: ys, h => by
    unfold zipI
    rw [List.length_cons, List.length_cons, zipI_len (i + 1) xs ys (by simpa using h)]
theorem zipI_get : ∀ (i : Nat) (xs ys : List D) (k : Nat) (x y : D), xs[k]? = some x → ys[k]? = some y → (zipI i xs ys)[k]? = some (.tup [.int ((i + k : Nat) : Int), .tup [x, y]])
  | _, [], _, _, _, _, h, _ => by simp at h
  | _, _ :: _, [], _, _, _, _, h => by simp at h
  | i, x :: xs, y :: ys, 0, u, v, h1, h2 => by
    simp at h1 h2
    subst h1 h2
    unfold zipI
    rfl
  | i, x :: xs, y :: ys, k + 1, u, v, h1, h2 => by
    unfold zipI
    rw [List.getElem?_cons_succ, zipI_get (i + 1) xs ys k u v (by simpa using h1) (by simpa using h2)]
    have e : i + 1 + k = i + (k + 1) := by omega
    rw [e]
theorem walk_ez {G : Gd} {B1 : Hp} {a b : Addr} {xs ys : List V} {ds es : List D} (hl : ds.length = es.length) (h1 : ∀ B H, Same B1 B → Same B H → SqL G.K H a xs) (h2 : ∀ B H, Same B1 B → Same B H → SqL G.K H b ys) (r1 : Reps G B1 ds xs) (r2 : Reps G B1 es ys) : DWalk G B1 (Itez G.K a b) (zipI 0 ds es) where
  goes := fun i B H hi s t => by
    rw [zipI_len 0 ds es hl] at hi
    exact ⟨xs, ys, xs[i]'(by rw [reps_len r1]; exact hi), ys[i]'(by rw [reps_len r2]; omega), h1 B H s t, h2 B H s t, List.getElem?_eq_getElem _, List.getElem?_eq_getElem _⟩
  stops := fun B H s t => ⟨xs, h1 B H s t, by rw [reps_len r1, zipI_len 0 ds es hl]; exact Nat.le_refl _, ys, h2 B H s t⟩
  ylds := fun i B H v H' hi s t y => by
    obtain ⟨T, T2, x, y, rfl, hT, hne, hT2, rfl, y1, y2⟩ := y
    obtain ⟨d, hd, rd⟩ := reps_get' r1 (y1 xs (h1 B H s t))
    obtain ⟨e, he, re⟩ := reps_get' r2 (y2 ys (h2 B H s t))
    have x1 : Ext B H (upd B T (.tup [x, y])) (upd H T (.tup [x, y])) := Ext.new t hT
    have hT2' : upd H T (.tup [x, y]) T2 = none := by rw [upd_ne hne]; exact hT2
    have x2 := x1.trans (Ext.new (o := .tup [.int (i : Nat), .ref T]) x1.i' hT2')
    have g0 := zipI_get 0 ds es i d e hd he
    rw [Nat.zero_add] at g0
    refine ⟨_, _, x2, g0, rep_tup upd_same (reps_cons rep_int (reps_one (rep_tup (by rw [upd_ne hne.symm, upd_same]) (reps_cons ?_ (reps_one ?_)))))⟩
    · exact rep_mono x2.b _ _ (rep_mono s _ _ rd)
    · exact rep_mono x2.b _ _ (rep_mono s _ _ re)
def iEZ (f : Sto → M (List D)) : Sto → M (List D) := fun ρ => match f ρ with
  | .ok [.lst xs, .lst ys] => if xs.length = ys.length then .ok (zipI 0 xs ys) else .error .stuck
  | .ok _ => .error .stuck
  | .error e => .error e
theorem di_enumzip {X : Cx} {W : WX} {x1 x2 : Expr} {g : Sto → M (List D)} {p p2 pos pos2 tpos : Pos} {elts : List Expr} {kk : Nat} (hm : X.mg "enumerate" = none) (hm2 : X.mg "zip" = none) (ha : PA X [x1, x2] (TAD (gd X) W g)) (hg : Gl X "enumerate" := by rfl) (hg2 : Gl X "zip" := by rfl)
    (hs : starEach [x1, x2] X.env = (false, eval x1 X.env) :: starEach [x2] X.env := by rfl) (hpl : (backTo pos2 (starEach [x2] X.env)).any (·.1) = false := by rfl)
    (hs2 : starEach [.Call (.Name "zip" p2) [x1, x2] [] pos2] X.env = (false, eval (.Call (.Name "zip" p2) [x1, x2] [] pos2) X.env) :: starEach [] X.env := by rfl) :
    PI X (.Tuple elts kk tpos) (.Call (.Name "enumerate" p) [.Call (.Name "zip" p2) [x1, x2] [] pos2] [] pos) (TID (gd X) W (iEZ g)) := (pi_ez hg hm hg2 hm2 ha hs hpl hs2).wk fun σ H R ⟨B0, H0, B, ρ, S, q⟩ => by
  unfold iEZ at q
  refine tad_i S (fun er h => by rw [h] at q; exact q) fun vs H1 B1 ds x r e => ?_
  rw [e] at q
  split at q
  · rename_i xs ys he
    cases he
    split at q
    · rename_i hl
      simp only [Reps, Rep] at r
      obtain ⟨v, t, rfl, ⟨a, us, rfl, ha, ra⟩, v2, t2, rfl, ⟨b, ws, rfl, hb, rb⟩, rfl⟩ := r
      exact ⟨a, b, us, ws, rfl, .of (x.i' _ _ ha), .of (x.i' _ _ hb), q _ B1 H1 x (walk_ez hl (fun B H s t => .of (t _ _ (s _ _ ha))) (fun B H s t => .of (t _ _ (s _ _ hb))) ra rb)⟩
    · exact q.elim
  · exact q.elim
  · rename_i he; cases he
end DL

namespace DL
open PySem PySem.Spec PyProof.Rows L2

/-! ### a def whose value is new: its caller owns it -/
def spF (G : Gd) (n : Nat) (m : List D → M D) : Sp := fun vs H Q E => ∃ B ds, ds.length = n ∧ Same B H ∧ Reps G B ds vs ∧ FPost G (fun cls d _ H' => E cls d H') B H [] Q (m ds)
structure FnF (P : Program) (w : World) (K : PySem.W.Frag) (mg : Str → Option Value) (base : Heap) (k : Nat) (x : Str) (n : Nat) (m : List D → M D) : Prop where
  ex : ∃ f fd ps, FnOk P w K mg base (L2.CX P w) k f fd ps (spF ⟨K, mg⟩ n m) ∧ mg x = some (.ref f) ∧ PySem.W.keepIn K (.ref f) = true ∧ Binds K fd ps []
def Res.outF : Res → M D
  | .rt (.ow d) => .ok d
  | .er e _ => .error e
  | _ => .error .stuck
def runF (n np : Nat) (g : Sto → Res) : List D → M D := fun ds => if ds.length = np then (g (startS n ds)).outF else .error .stuck
section
variable {P : Program} {w : World} {K : PySem.W.Frag} {mg : Str → Option Value} {base : Heap}
theorem bodyF_ok {N ps : List Str} {g : Sto → Res} {vs : List V} {H : Hp} {Q : VK} {E : XK} (h : spF ⟨K, mg⟩ ps.length (runF N.length ps.length g) vs H Q E) : TSD ⟨K, mg⟩ (fun cls d _ H' => E cls d H') g { nx := fun _ H' => Q .non H', rt := Q } (start N vs) H := by
  obtain ⟨B, ds, hn, s, r, q⟩ := h
  refine ⟨B, H, B, startS N.length ds, start_ok s r, ?_⟩
  unfold runF at q
  rw [if_pos hn] at q
  cases hr : g (startS N.length ds) with
  | nx ρ => rw [hr] at q; exact q.elim
  | rt sl =>
    rw [hr] at q
    cases sl with
    | sh d => exact q.elim
    | ow d => exact fun p B' H' x h1 h2 h3 => q p B' H' x h1 h2 h3
  | er e ρ =>
    rw [hr] at q
    intro σ B' H' S
    have q2 : ErOk ⟨K, mg⟩ (fun cls d _ H' => E cls d H') B H [] e := q
    have q3 := ErOk.mono q2 S.ext
    cases e with
    | stuck => exact q3
    | exc c a => exact q3
  | bk ρ => rw [hr] at q; exact q.elim
  | ct ρ => rw [hr] at q; exact q.elim
theorem fnf_ok {x qual : Str} {st : Stmt} {f : Addr} {fd : FuncData} {N ps : List Str} {k n : Nat} {m : List D → M D} {g : Sto → Res} (F : Fun K x qual st f fd) (gm : mg x = some (.ref f)) (b : Binds K fd ps []) (S : FnScope N ps (defScope st)) (hn : ps.length = n) (hm : m = runF N.length n g)
    (hb : ∀ (cdv : Value) (A : Around) (outer : List Env) (s : Shared) (H : Hp) (E : XK), Room k (A.deeper (envOfC qual (defScope st) s.heap.objs.size f cdv)) → PSs (cxOf (L2.CX P w) P w K mg base N qual (defScope st) f cdv A outer s H E) (defBody st) (TSD ⟨K, mg⟩ (fun cls d _ H' => E cls d H') g)) : FnF P w K mg base (k + 1) x n m := by
  subst hn hm
  refine ⟨f, fd, ps, F.okX S (fun vs H Q E h => ?_) (fun cdv A outer s H vs Q E hr h => ⟨_, hb cdv A outer s H E hr, bodyF_ok h⟩), gm, F.kp, b⟩
  obtain ⟨B, ds, hn, _, r, _⟩ := h
  rw [reps_len r, hn]
theorem FnF.mono {j k : Nat} {x : Str} {n : Nat} {m : List D → M D} (F : FnF P w K mg base j x n m) (h : j ≤ k) : FnF P w K mg base k x n m :=
  let ⟨f, fd, ps, a, b⟩ := F.ex
  ⟨f, fd, ps, a.mono h, b⟩
theorem FnF.d {k : Nat} {x : Str} {n : Nat} {m : List D → M D} (F : FnF P w K mg base k x n m) : FnD P w K mg base k x n m := by
  obtain ⟨f, fd, ps, a, b⟩ := F.ex
  refine ⟨f, fd, ps, a.imp fun vs H Q E ⟨B, ds, hn, s, r, q⟩ => ⟨B, ds, hn, s, r, ?_⟩, b⟩
  cases hm : m ds with
  | error e => rw [hm] at q; exact q
  | ok d =>
    rw [hm] at q
    intro p B' H' x h1 h2 h3
    obtain ⟨B2, x2, r2⟩ := freeze_rep x h1 h2 h3
    exact q _ B2 H' x2 r2
end
section
variable {X : Cx} {W : WX} {x : Str} {p pos : Pos} {e : Expr} {es : List Expr} {f : Sto → M (List D)} {k n : Nat} {m : List D → M D}
theorem df_fn (F : FnF X.prog X.w X.K X.mg X.base k x n m) (hr : Room k X.A) (tk : Takes X W) (ha : PA X (e :: es) (TAD (gd X) W f)) (hl : LenA f n := by repeat (first | exact len_nil | refine len_cons ?_)) (hg : Gl X x := by rfl) (hdb : (x == ("__debug__" : Str)) = false := by decide)
    (he : starEach (e :: es) X.env = (false, eval e X.env) :: starEach es X.env := by rfl) (hpl : (backTo pos (starEach es X.env)).any (·.1) = false := by rfl) :
    PE X (.Call (.Name x p) (e :: es) [] pos) (TF (gd X) W (eFn m f)) := by
  obtain ⟨fa, fd, ps, F, hm, hk, hb⟩ := F.ex
  refine ⟨fun pins s σ H Q I ⟨B0, H0, B, ρ, S, q⟩ => ?_⟩
  unfold eFn at q
  refine wpAny_Call_Name_kw (ld_glob I hg hm ?_ hdb)
  refine PySem.W.callWith_K (h₀ := X.base) I.ok.mod.kin hk (thn (ha.run pos pins s σ H (fun vs H1 => ∃ B1 ds, Ext B H B1 H1 ∧ Reps (gd X) B1 ds vs ∧ f ρ = .ok ds) I (tad_i S (fun er h => by rw [h] at q; exact q) fun vs H1 B1 ds x r e => ⟨B1, ds, x, r, e⟩)) fun us s1 ⟨vs, H1, I1, r, B1, ds, x, rr, e1⟩ => ⟨I1.kIn, ?_⟩) he hpl
  rw [e1] at q
  have q' : FPost (gd X) W B H σ Q (m ds) := q
  refine run_fnS F hr hb (passAt tk σ) I1 r ⟨B1, ds, ?_, x.i', rr, ?_⟩
  · exact hl ρ ds e1
  · cases hm : m ds with
    | ok d => rw [hm] at q'; exact fun v B' H' x2 h1 h2 h3 => q' v B' H' (x.trans x2) (x.fresh h1) h2 h3
    | error er =>
      rw [hm] at q'
      have q2 := ErOk.mono q' x
      cases er with
      | stuck => exact q2
      | exc c a => exact q2
end

/-! ### more statements -/
def sFrz (i : Nat) (g : Sto → Res) : Sto → Res := fun ρ => match ρ[i]? with
  | some (some (.ow d)) => g (ρ.set i (some (.sh d)))
  | _ => g ρ
def sUnp (f : Sto → M D) (b : D → Sto → Option Sto) : Sto → Res := fun ρ => match f ρ with
  | .error e => .er e ρ
  | .ok d => match b d ρ with
    | some ρ' => .nx ρ'
    | none => .er .stuck ρ
def sPar (i j : Nat) (f : Sto → M (List D)) : Sto → Res := fun ρ => match f ρ with
  | .error e => .er e ρ
  | .ok [a, b] => .nx ((ρ.set i (some (.sh a))).set j (some (.sh b)))
  | .ok _ => .er .stuck ρ
def eUn (g : D → Option D) (f : Sto → M D) : Sto → M D := fun ρ => (f ρ).bind fun d => opt (g d)
def D.neg : D → Option D
  | .int i => some (.int (-i))
  | _ => none
def gRepr : List D → Option D
  | [.int i] => if i.natAbs.log2 < 1920 then some (.str (toString i)) else none
  | [.non] => some (.str "None")
  | [.bl b] => some (.str (if b then "True" else "False"))
  | _ => none
section
variable {X : Cx} {W : WX} {st : Stmt} {g : Sto → Res} {e tg : Expr} {f : Sto → M D} {pos px : Pos} {x : Str}
theorem ds_frz (i : Nat) (h : PS X st (TSD (gd X) W g)) : PS X st (TSD (gd X) W (sFrz i g)) := h.wk fun Dn σ H ⟨B0, H0, B, ρ, S, q⟩ => by
  unfold sFrz at q
  split at q
  · rename_i d hi
    obtain ⟨B', S', _⟩ := S.freeze hi
    exact ⟨B0, H0, B', _, S', q⟩
  · exact ⟨B0, H0, B, ρ, S, q⟩
theorem ds_unp {b : D → Sto → Option Sto} {is : List Nat} (he : PE X e (TD (gd X) W f)) (hg : PG X tg (TGD (gd X) b is)) (hs : swapsWithSole [tg] e pos.line X.env = pure false := by rfl) (hw : swappedStores [tg] e X.env = pure none := by rfl) (h1 : (assignEach [tg] X.env).map (·.2) = [assign tg X.env] := by rfl) :
    PS X (.Assign [tg] e pos) (TSD (gd X) W (sUnp f b)) := (ps_asg he hg hs hw h1).wk fun Dn σ H ⟨B0, H0, B, ρ, S, q⟩ => by
  unfold sUnp at q
  refine td_i S (fun er h => by rw [h] at q; exact q σ B H S) fun v H1 B1 d x r e => ?_
  rw [e] at q
  dsimp only at q
  cases hb : b d ρ with
  | none => rw [hb] at q; exact (q σ B H S).elim
  | some ρ' =>
    rw [hb] at q
    exact ⟨B0, H0, B1, ρ, d, ρ', S.mono x, r, hb, fun σ' S' _ _ => q σ' B1 H1 S'⟩
theorem ds_par (i j : Nat) {y : Str} {a b : Expr} {fa : Sto → M (List D)} {py pt : Pos} {kt k2 pt2} (hN : X.N.Nodup) (ha : PA X [a, b] (TAD (gd X) W fa)) (hc : X.calm = true := by rfl) (hi : X.N[i]? = some x := by rfl) (hj : X.N[j]? = some y := by rfl) (hij : i ≠ j := by decide)
    (hx : X.env.scope.names.lookup x = some .local := by rfl) (hy : X.env.scope.names.lookup y = some .local := by rfl) (hw : swappedStores [.Tuple [.Name x px, .Name y py] kt pt] (.Tuple [a, b] k2 pt2) X.env = pure (some [x, y]) := by rfl)
    (hs : swapsWithSole [.Tuple [.Name x px, .Name y py] kt pt] (.Tuple [a, b] k2 pt2) pos.line X.env = pure false := by rfl) :
    PS X (.Assign [.Tuple [.Name x px, .Name y py] kt pt] (.Tuple [a, b] k2 pt2) pos) (TSD (gd X) W (sPar i j fa)) := (ps_par hc hN hi hj hij hx hy ha hw hs).wk fun Dn σ H ⟨B0, H0, B, ρ, S, q⟩ => by
  unfold sPar at q
  refine tad_i S (fun er h => by rw [h] at q; exact q σ B H S) fun vs H1 B1 ds x r e => ?_
  rw [e] at q
  match ds, r, q with
  | [], r, q => exact (q σ B H S).elim
  | [_], r, q => exact (q σ B H S).elim
  | _ :: _ :: _ :: _, r, q => exact (q σ B H S).elim
  | [d1, d2], r, q =>
    simp only [Reps] at r
    obtain ⟨v, t, rfl, r1, w, t2, rfl, r2, rfl⟩ := r
    exact ⟨v, w, rfl, q _ B1 H1 (((S.mono x).set_sh r1 i).set_sh r2 j)⟩
theorem ds_ext (i : Nat) {apos cpos : Pos} (he : PE X e (TD (gd X) W f)) (hN : X.N[i]? = some x := by rfl) (hv : Vis X.env.scope x := by first | exact Or.inl rfl | exact Or.inr (Or.inl rfl) | exact Or.inr (Or.inr rfl)) (hd : (x == ("__debug__" : Str)) = false := by decide) (hcd : (x == ("__classdict__" : Str)) = false := by decide)
    (hbase : attributeBase (.Name x px) "extend" X.env (eval (.Name x px) X.env) = eval (.Name x px) X.env := by rfl)
    (hfew : ((backTo cpos (starEach (e :: []) X.env)).all (fun x => !x.1) && (backToKw cpos (keywordEach [] X.env)).all (fun x => x.1.isSome)
      && decide ((e :: []).length + ([] : List Keyword).length + (if ([] : List Keyword).isEmpty then 0 else 1) < 30)) = true := by rfl)
    (hline : (apos.endLine == cpos.line) = true := by rfl) (hs : starEach (e :: []) X.env = (false, eval e X.env) :: starEach [] X.env := by rfl) (hsw : swapsWith (.Call (.Attribute (.Name x px) "extend" apos) [e] [] cpos) none pos.line X.env = pure false := by rfl) :
    PS X (.Expr (.Call (.Attribute (.Name x px) "extend" apos) [e] [] cpos) pos) (TSD (gd X) W (sExt i f)) :=
  (ps_expr (pe_bm PySem.F.plainAttrs_list PySem.F.slot_list_extend PySem.F.type_list_extend mt_extend (pe_var hN hv hd hcd) (pa_cons he pa_nil hs) hbase hfew hline hs rfl) hsw).wk fun Dn σ H ⟨B0, H0, B, ρ, S, q⟩ => by
    unfold sExt at q
    rcases owL_cases i ρ with ⟨ds, hi, ek⟩ | ek
    · rw [ek] at q
      obtain ⟨p, h1, h2, h3, xs, h4, rs⟩ := S.ow i _ hi
      refine ⟨_, h1, .inl ⟨rfl, xs, .of h4⟩, td_i S (fun er h => by rw [h] at q; exact q σ B H S) fun v H1 B1 d x r e => ?_⟩
      rw [e] at q
      cases d with
      | lst es =>
        dsimp only at q
        split at q
        · rename_i hl
          have h4' := x.h _ _ h4
          have S1 := S.mono x
          simp only [Rep] at r
          obtain ⟨a, ys, rfl, ha, ra⟩ := r
          exact ⟨p, a, xs, ys, rfl, rfl, h4', x.i' _ _ ha, by rw [reps_len rs, reps_len ra]; exact lim_of hl, q _ B1 _ (S1.upd_ow hi h1 ⟨_, upd_same, reps_app (reps_mono x.b _ _ rs) ra⟩)⟩
        · exact (q σ B H S).elim
      | _ => exact (q σ B H S).elim
    · rw [ek] at q; exact (q σ B H S).elim
theorem de_neg {a : Expr} (ha : PE X a (TR (gd X) W f)) : PE X (.UnaryOp .USub a pos) (TD (gd X) W (eUn D.neg f)) := (pe_un un_neg ha).wk fun σ H Q ⟨B0, H0, B, ρ, S, q⟩ => by
  unfold eUn at q
  refine tr_i S (fun er h => by rw [h] at q; exact q) fun v H1 B1 d x r e => ?_
  rw [e] at q
  have q' : DPost (gd X) W B H σ Q (opt (D.neg d)) := q
  cases d with
  | int i =>
    have v' := rdb_int r
    subst v'
    exact ⟨i, rfl, q' _ B1 H1 x rep_int⟩
  | _ => exact q'.elim
end
def rReprF : List V → Hp → VK → Prop := fun xs H Q => (∃ i, xs = [.int i] ∧ i.natAbs.log2 < 1920 ∧ Q (.str (toString i)) H) ∨ (xs = [.non] ∧ Q (.str "None") H) ∨ ∃ b, xs = [.bl b] ∧ Q (.str (if b then "True" else "False")) H
theorem call_reprD {X : Cx} : CallR X (.builtin "repr") rReprF := by
  intro pins s σ H xs us Q I r h
  rcases h with h | ⟨rfl, q⟩ | ⟨b, rfl, q⟩
  · exact SkE.call_repr_int pins s σ H xs us Q I r h
  · obtain ⟨u, rfl, ru⟩ := vals1 r
    cases ru
    exact PySem.P.repr_of_none ⟨.str _, H, I.tok _, ⟨_, rfl⟩, q⟩
  · obtain ⟨u, rfl, ru⟩ := vals1 r
    cases ru
    exact PySem.P.repr_of_bool ⟨.str _, H, I.tok _, ⟨_, rfl⟩, q⟩
theorem ci_repr {G : Gd} : CallI G rReprF gRepr := fun B H ds xs z Q s r hz k => by
  unfold gRepr at hz
  split at hz
  · split at hz
    · rename_i hl
      cases hz
      obtain ⟨v, rfl, r1⟩ := rdbs1 r
      have v' := rdb_int r1
      subst v'
      exact .inl ⟨_, rfl, hl, k _ B H (Ext.refl s) rep_str⟩
    · cases hz
  · cases hz
    obtain ⟨v, rfl, r1⟩ := rdbs1 r
    have v' := rdb_non r1
    subst v'
    exact .inr (.inl ⟨rfl, k _ B H (Ext.refl s) rep_str⟩)
  · cases hz
    obtain ⟨v, rfl, r1⟩ := rdbs1 r
    have v' := rdb_bl r1
    subst v'
    exact .inr (.inr ⟨_, rfl, k _ B H (Ext.refl s) rep_str⟩)
  · cases hz

/-! ### errors of the program's own that hold one text -/
structure ExcT (K : PySem.W.Frag) (mg : Str → Option Value) (c : EC) : Prop where
  ex : ∃ C, mg c.name = some (.ref C) ∧ PySem.W.keepIn K (.ref C) = true ∧ PySem.W.excIn K C [.type "ValueError", .type "Exception", .type "BaseException", .type "object"] "ValueError.__new__" = true ∧ PySem.W.subIn K (.ref C) (.type "BaseException") = some true ∧ PySem.W.typeIn K (.ref C) = some (.type "type")
theorem ExcT.raise {X : Cx} {W : WX} {c : EC} {m : Str} {j : Nat} {x : Str} {p p2 pos pos' : Pos} (T : ExcT X.K X.mg c) (c' : EC) (hc : X.calm = true) (tk : Takes X W) (e1 : c' = c := by rfl) (e2 : x = c.name := by rfl) (hg : Gl X x := by rfl) (hdb : (x == ("__debug__" : Str)) = false := by decide) :
    PS X (.Raise (some (.Call (.Name x p) [.Constant (.str m) j p2] [] pos)) none pos') (TSD (gd X) W (sRaise c none)) := by
  obtain ⟨C, g, k, q, s, t⟩ := T.ex
  subst e2
  exact ds_raise hc tk g (pmk_own PySem.F.excBase_ValueError q g k (raises_own s t) hg hdb)
end DL

namespace DL
open PySem PySem.Spec PyProof.Rows L2

theorem de_globE {X : Cx} {W : WX} {pos : Pos} {x : Str} {i : Int} (hg : Gl X x) (hm : ∃ t, X.mg x = some (.int i t)) (hd : (x == ("__debug__" : Str)) = false := by decide) : PE X (.Name x pos) (TD (gd X) W (eC (.int i))) :=
  let ⟨_, h⟩ := hm
  de_globI hg h hd
theorem de_globES {X : Cx} {W : WX} {pos : Pos} {x i : Str} (hg : Gl X x) (hm : ∃ t, X.mg x = some (.str i t)) (hd : (x == ("__debug__" : Str)) = false := by decide) : PE X (.Name x pos) (TD (gd X) W (eC (.str i))) :=
  let ⟨_, h⟩ := hm
  de_globS hg h hd

/-! ### what the written part says of a def -/
structure FF (K : PySem.W.Frag) (mg : Str → Option Value) (x : Str) (st : Stmt) (ps : List Str) : Prop where
  ex : ∃ f fd, Fun K x x st f fd ∧ mg x = some (.ref f) ∧ Binds K fd ps []
section
variable {K : PySem.W.Frag} {mg : Str → Option Value} {h : Heap} {x : Str} {st : Stmt} {ps : List Str} {f : Addr} {oc : Value} {od an : Option Addr} {osl : Array (Option Value)} {kV doc pm cdv ct : Value}
theorem ff_mk (X : K.In h) (G : h.Ns mainGlobals mg) (a : PySem.W.nsIn K mainGlobals x = some (some (.ref f))) (l : K.lookup f = some ⟨oc, od, .func (PySem.W.fnOf x x (defArgs st) (defBody st) (defScope st) .none kV doc pm an cdv ct), osl⟩) (c : PySem.W.codeIn K cdv x = true) (k : PySem.W.keepIn K (.ref f) = true)
    (hb : ∀ (kV doc pm : Value) (an : Option Addr) (cdv ct : Value) (us : List Value), us.length = ps.length → bindArgs (PySem.W.fnOf x x (defArgs st) (defBody st) (defScope st) .none kV doc pm an cdv ct) ⟨us, []⟩ = pure (ps.zip us)) : FF K mg x st ps :=
  ⟨f, _, fun_mk l c k, PySem.W.mg_of X G a, (fun_mk l c k).binds hb⟩
theorem exc_mk {e : EC} {C : Addr} (X : K.In h) (G : h.Ns mainGlobals mg) (a : PySem.W.nsIn K mainGlobals e.name = some (some (.ref C))) (k : PySem.W.keepIn K (.ref C) = true)
    (q : PySem.W.excIn K C [.type "ValueError", .type "Exception", .type "BaseException", .type "object"] "ValueError.__new__" = true) (s : PySem.W.subIn K (.ref C) (.type "BaseException") = some true) (t : PySem.W.typeIn K (.ref C) = some (.type "type")) : ExcT K mg e :=
  ⟨C, PySem.W.mg_of X G a, k, q, s, t⟩
theorem int_mk {i : Int} {t : Tok} (X : K.In h) (G : h.Ns mainGlobals mg) (a : PySem.W.nsIn K mainGlobals x = some (some (.int i t))) : ∃ t, mg x = some (.int i t) := ⟨t, PySem.W.mg_of X G a⟩
variable {P : Program} {w : World} {base : Heap}
theorem ffd {N : List Str} {k n : Nat} {m : List D → M D} {g : Sto → Res} (F : FF K mg x st ps) (S : FnScope N ps (defScope st)) (hn : ps.length = n) (hm : m = runD N.length n g)
    (hb : ∀ (f : Addr) (cdv : Value) (A : Around) (outer : List Env) (s : Shared) (H : Hp) (E : XK), Room k (A.deeper (envOfC x (defScope st) s.heap.objs.size f cdv)) → PSs (cxOf (L2.CX P w) P w K mg base N x (defScope st) f cdv A outer s H E) (defBody st) (TSD ⟨K, mg⟩ (fun cls d _ H' => E cls d H') g)) : FnD P w K mg base (k + 1) x n m :=
  let ⟨f, _, F, gm, b⟩ := F.ex
  fnd_ok F gm b S hn hm (hb f)
theorem fff {N : List Str} {k n : Nat} {m : List D → M D} {g : Sto → Res} (F : FF K mg x st ps) (S : FnScope N ps (defScope st)) (hn : ps.length = n) (hm : m = runF N.length n g)
    (hb : ∀ (f : Addr) (cdv : Value) (A : Around) (outer : List Env) (s : Shared) (H : Hp) (E : XK), Room k (A.deeper (envOfC x (defScope st) s.heap.objs.size f cdv)) → PSs (cxOf (L2.CX P w) P w K mg base N x (defScope st) f cdv A outer s H E) (defBody st) (TSD ⟨K, mg⟩ (fun cls d _ H' => E cls d H') g)) : FnF P w K mg base (k + 1) x n m :=
  let ⟨f, _, F, gm, b⟩ := F.ex
  fnf_ok F gm b S hn hm (hb f)

/-! ### the law -/
def spL (K : PySem.W.Frag) : Sp := fun vs H Q _ => ∃ (a : Addr) (ns : List Int), vs = [.ref a] ∧ SqL K H a (ns.map V.int) ∧ ns.length ≤ 63 ∧ ∀ H', Q (.bl true) H'
def scr (ns : List Int) : D := .fls (ns.map D.int)
theorem reps_map_int {G : Gd} {B : Hp} : ∀ ns : List Int, Reps G B (ns.map D.int) (ns.map V.int)
  | [] => by simp only [List.map_nil, Reps]
  | n :: ns => reps_cons rep_int (reps_map_int ns)
theorem law_imp {k : Nat} {f : Addr} {fd : FuncData} {m : List D → M D} (F : FnOk P w K mg base (L2.CX P w) k f fd ps (spD ⟨K, mg⟩ 1 m)) (h : ∀ ns : List Int, ns.length ≤ 63 → m [scr ns] = .ok (.bl true)) : FnOk P w K mg base (L2.CX P w) k f fd ps (spL K) :=
  F.imp fun vs H Q E ⟨a, ns, e, hS, hl, q⟩ => by
    subst e
    refine ⟨H, [scr ns], rfl, Same.refl _, reps_one ?_, ?_⟩
    · show Rep _ _ (.fls _) _
      simp only [Rep]
      exact ⟨a, _, rfl, hS, reps_map_int ns⟩
    · rw [h ns hl]
      intro v B' H' _ r
      simp only [Rep] at r
      subst r
      exact q H'
end
theorem walkD {l : PySem.W.OpenLaw} {q : Program} {loose : List Str} {XP : (Str → Option Value) → Heap → Prop} {YP : World → Heap → Prop} {d : DefRec} {K : Params → PySem.W.Frag} {k : Nat} {x : Str} (hn : l.most = some 63) (hdf : d.params.defaults = []) (hr : Room k callerA)
    (hY : ∀ (w : World) (h : Heap), YP w h → (K w.params).In h)
    (F : ∀ (w : World) (mg : Str → Option Value) (fa : Addr) (h : Heap), (K w.params).In h → h.Ns mainGlobals mg → mg d.name = some (.ref fa) →
      ∃ fd : FuncData, (∀ (s : Shared) (u : Value), BindsTo s fd ⟨[u], []⟩ [(x, u)]) ∧ ∀ base : Heap, (K w.params).In base → base.Ns mainGlobals mg → FnOk l.prog w (K w.params) mg base (L2.CX l.prog w) k fa fd [x] (spL (K w.params))) :
    PySem.W.WalkO q loose XP YP l.row.toRowW d [] (fun f vs => PySem.call f vs) :=
  L2.walk_of (n := 63) (k := k) (x := x) (CX := fun w => L2.CX l.prog w) (sp := fun w => spL (K w.params)) hn (by decide) hdf hr hY F (fun _ _ a ns hl _ hS => ⟨a, ns, rfl, hS, hl, fun _ => rfl⟩) fun _ _ _ _ _ z => by
    obtain ⟨_, _, _, _, _, _, _, _, _, _, _, _, q⟩ := z
    exact q
/-- the law's own def -/
theorem law_mk {K : PySem.W.Frag} {mg : Str → Option Value} {h : Heap} {x a0 : Str} {st : Stmt} {f fa : Addr} {oc : Value} {od an : Option Addr} {osl : Array (Option Value)} {kV doc pm cdv ct : Value} {P : Program} {w : World} {N : List Str} {k : Nat} {m : List D → M D} {g : Sto → Res}
    (X : K.In h) (G : h.Ns mainGlobals mg) (hfa : mg x = some (.ref fa)) (a : PySem.W.nsIn K mainGlobals x = some (some (.ref f))) (l : K.lookup f = some ⟨oc, od, .func (PySem.W.fnOf x x (defArgs st) (defBody st) (defScope st) .none kV doc pm an cdv ct), osl⟩) (c : PySem.W.codeIn K cdv x = true) (kp : PySem.W.keepIn K (.ref f) = true)
    (hb1 : ∀ (s : Shared) (u : Value), BindsTo s (PySem.W.fnOf x x (defArgs st) (defBody st) (defScope st) .none kV doc pm an cdv ct) ⟨[u], []⟩ [(a0, u)]) (S : FnScope N [a0] (defScope st)) (hm : m = runD N.length 1 g)
    (hb : ∀ (base : Heap) (f : Addr) (cdv : Value) (A : Around) (outer : List Env) (s : Shared) (H : Hp) (E : XK), Room k (A.deeper (envOfC x (defScope st) s.heap.objs.size f cdv)) → PSs (cxOf (L2.CX P w) P w K mg base N x (defScope st) f cdv A outer s H E) (defBody st) (TSD ⟨K, mg⟩ (fun cls d _ H' => E cls d H') g))
    (hl : ∀ ns : List Int, ns.length ≤ 63 → m [scr ns] = .ok (.bl true)) :
    ∃ fd : FuncData, (∀ (s : Shared) (u : Value), BindsTo s fd ⟨[u], []⟩ [(a0, u)]) ∧ ∀ base : Heap, K.In base → base.Ns mainGlobals mg → FnOk P w K mg base (L2.CX P w) (k + 1) fa fd [a0] (spL K) := by
  have e := hfa.symm.trans (PySem.W.mg_of X G a)
  cases e
  refine ⟨_, hb1, fun base _ _ => law_imp (m := m) ?_ hl⟩
  subst hm
  refine (fun_mk l c kp).okX S (fun vs H Q E h => ?_) (fun cdv A outer s H vs Q E hr h => ⟨_, hb base _ cdv A outer s H E hr, body_ok (ps := [a0]) h⟩)
  obtain ⟨B, ds, hn, _, r, _⟩ := h
  rw [reps_len r, hn]
  rfl
end DL

namespace DL
open PySem PySem.Spec PyProof.Rows L2

/-! ### plain: lists of whole numbers, places, cuts, likeness -/
abbrev intL (xs : List Int) : D := .lst (xs.map D.int)
theorem atI_nat {α : Type} {xs : List α} {k : Int} (h0 : 0 ≤ k) (h1 : k.toNat < xs.length) : atI xs k = xs[k.toNat]? := by
  unfold atI ixN
  rw [if_pos h0, if_pos (by omega)]
  rfl
theorem atI_last {α : Type} {xs : List α} (h : xs ≠ []) : atI xs (-1) = xs[xs.length - 1]? := by
  have hl : 0 < xs.length := List.length_pos_iff.mpr h
  unfold atI ixN
  rw [if_neg (by omega), if_pos (by omega)]
  show xs[((-1 : Int) + (xs.length : Int)).toNat]? = _
  congr 1
  omega
theorem item_intL {xs : List Int} {k : Int} (h0 : 0 ≤ k) (h1 : k.toNat < xs.length) : D.item (intL xs) (.int k) = some (.int (xs.getD k.toNat 0)) := by
  show atI (xs.map D.int) k = _
  rw [atI_nat h0 (by rw [List.length_map]; exact h1), List.getElem?_map, List.getD_eq_getElem?_getD, List.getElem?_eq_getElem h1]
  rfl
theorem item_scr {xs : List Int} {k : Int} (h0 : 0 ≤ k) (h1 : k.toNat < xs.length) : D.item (scr xs) (.int k) = some (.int (xs.getD k.toNat 0)) := item_intL h0 h1
theorem cut_map {α β : Type} (f : α → β) (xs : List α) (lo hi : Option Int) : cut (xs.map f) lo hi = (cut xs lo hi).map f := by
  unfold cut
  rw [List.length_map, List.map_take, List.map_drop]
theorem cut_to {α : Type} (xs : List α) {k : Int} (h : 0 ≤ k) : cut xs none (some k) = xs.take k.toNat := by
  unfold cut HT.sIx
  simp only [List.drop_zero, Nat.sub_zero]
  rw [if_neg (by omega), List.take_eq_take_iff]
  omega
theorem cut_from {α : Type} (xs : List α) {k : Int} (h : 0 ≤ k) : cut xs (some k) none = xs.drop k.toNat := by
  unfold cut HT.sIx
  simp only []
  rw [if_neg (by omega)]
  have e : min k.toNat xs.length = k.toNat ∨ xs.length ≤ k.toNat := by omega
  rcases e with e | e
  · rw [e, List.take_of_length_le (by simp)]
  · rw [List.drop_of_length_le e, Nat.min_eq_right e, Nat.sub_self, List.take_zero]
theorem cut_butlast {α : Type} (xs : List α) : cut xs none (some (-1)) = xs.dropLast := by
  unfold cut HT.sIx
  simp only [List.drop_zero, Nat.sub_zero]
  rw [if_pos (by omega), List.dropLast_eq_take]
  congr 1
  omega
theorem cut_last {α : Type} (xs : List α) : cut xs (some (-1)) none = xs.drop (xs.length - 1) := by
  unfold cut HT.sIx
  simp only []
  rw [if_pos (by omega)]
  have e : ((-1 : Int) + (xs.length : Int)).toNat = xs.length - 1 := by omega
  rw [e, List.take_of_length_le (by simp)]
theorem toPs_map {α : Type} (f : α → D) : ∀ xs : List α, toPs (xs.map f) = xs.map fun x => (f x).toP
  | [] => by simp only [List.map_nil, toPs]
  | x :: xs => by simp only [List.map_cons, toPs, toPs_map f xs]
theorem eqvAll_ints : ∀ xs ys : List Int, PyData.eqvAll (xs.map PyData.int) (ys.map PyData.int) = decide (xs = ys)
  | [], [] => by simp [PyData.eqvAll]
  | [], _ :: _ => by simp [PyData.eqvAll]
  | _ :: _, [] => by simp [PyData.eqvAll]
  | x :: xs, y :: ys => by
    simp only [List.map_cons, PyData.eqvAll, PyData.eqv, eqvAll_ints xs ys]
    by_cases h : x = y
    · by_cases g : xs = ys
      · simp [h, g]
      · simp [g]
    · simp [h]
theorem intL_toP (xs : List Int) : (intL xs).toP = .list (xs.map PyData.int) := by
  unfold intL
  rw [D.toP, toPs_map]
  rfl
theorem canLay_ints : ∀ xs : List Int, PyData.canLayAll0 (xs.map PyData.int) = true
  | [] => rfl
  | x :: xs => by simp [PyData.canLayAll0, PyData.canLay0, canLay_ints xs]
theorem depth_ints : ∀ xs : List Int, PyData.depthAll (xs.map PyData.int) = 0
  | [] => rfl
  | x :: xs => by simp [PyData.depthAll, PyData.depth, depth_ints xs]
theorem shaped_intL (xs : List Int) : SeqAt.shaped (intL xs).toP = true := by
  rw [intL_toP]
  unfold SeqAt.shaped
  simp [PyData.canLay0, PyData.depth, canLay_ints, depth_ints]
theorem eq_intL (xs ys : List Int) : D.eq (intL xs) (intL ys) = some (.bl (decide (xs = ys))) := by
  unfold D.eq
  rw [shaped_intL, shaped_intL, if_pos (show (true && true) = true from rfl), intL_toP, intL_toP]
  simp only [PyData.eqv, eqvAll_ints]
theorem ne_intL (xs ys : List Int) : D.ne (intL xs) (intL ys) = some (.bl (!decide (xs = ys))) := by
  unfold D.ne
  rw [shaped_intL, shaped_intL, if_pos (show (true && true) = true from rfl), intL_toP, intL_toP]
  simp only [PyData.eqv, eqvAll_ints]
theorem eq_int (a b : Int) : D.eq (.int a) (.int b) = some (.bl (decide (a = b))) := by
  show some _ = _
  congr 2
theorem ne_int (a b : Int) : D.ne (.int a) (.int b) = some (.bl (!decide (a = b))) := by
  show some (D.bl (!PyData.eqv _ _)) = _
  congr 3
theorem ne_str (a b : Str) (ha : SeqAt.shaped (.str a) = true) (hb : SeqAt.shaped (.str b) = true) : D.ne (.str a) (.str b) = some (.bl (!decide (a = b))) := by
  unfold D.ne
  simp only [D.toP, ha, hb, Bool.and_self, if_pos, PyData.eqv]
  rfl
/-- a comprehension whose items all are told -/
theorem lcGo_map {α : Type} {b : D → Sto → Option Sto} {c : Sto → M Bool} {e : Sto → M D} {ρ : Sto} (f g : α → D) : ∀ xs : List α, (∀ x ∈ xs, ∃ ρ1, b (f x) ρ = some ρ1 ∧ c ρ1 = .ok true ∧ e ρ1 = .ok (g x)) → lcGo b c e ρ (xs.map f) = .ok (xs.map g)
  | [], _ => rfl
  | x :: xs, h => by
    obtain ⟨ρ1, h1, h2, h3⟩ := h x (List.mem_cons_self ..)
    have ih := lcGo_map f g xs fun y hy => h y (List.mem_cons_of_mem _ hy)
    simp only [List.map_cons, lcGo, h1, h2, h3, ih]
theorem blsD_map (xs : List Bool) : blsD (xs.map D.bl) = some xs := by
  induction xs with
  | nil => rfl
  | cons x xs ih => simp [blsD, ih]
theorem intsD_map (xs : List Int) : intsD (xs.map D.int) = some xs := by
  induction xs with
  | nil => rfl
  | cons x xs ih => simp [intsD, ih]
end DL

namespace DL
open PySem PySem.Spec PyProof.Rows L2

/-! ### the mirrors' words, told at a store -/
@[simp] theorem bind_ok {α β : Type} (a : α) (f : α → M β) : Except.bind (Except.ok a : M α) f = f a := rfl
@[simp] theorem bind_er {α β : Type} (e : Er) (f : α → M β) : Except.bind (Except.error e : M α) f = .error e := rfl
@[simp] theorem opt_some {α : Type} (a : α) : (opt (some a) : M α) = .ok a := rfl
@[simp] theorem opt_none {α : Type} : (opt none : M α) = .error .stuck := rfl
@[simp] theorem asB_bl (b : Bool) : asB (.ok (.bl b)) = .ok b := rfl
@[simp] theorem asB_er (e : Er) : asB (.error e) = .error e := rfl
section
variable {ρ : Sto} {f f1 f2 f3 : Sto → M D} {g h : Sto → Res} {c c' : Sto → M Bool} {a : Sto → M (List D)} {i j : Nat} {d : D}
@[simp] theorem a_var : eVar i ρ = (match ρ[i]? with | some (some (.sh d)) => .ok d | _ => .error .stuck) := rfl
@[simp] theorem a_rd : eRd i ρ = (match ρ[i]? with | some (some (.sh d)) => .ok d | some (some (.ow d)) => .ok d | _ => .error .stuck) := rfl
@[simp] theorem a_c : eC d ρ = .ok d := rfl
@[simp] theorem a_bin {o : D → D → Option D} : eBin o f1 f2 ρ = (f1 ρ).bind fun a => (f2 ρ).bind fun b => opt (o a b) := rfl
@[simp] theorem a_un {o : D → Option D} : eUn o f1 ρ = (f1 ρ).bind fun a => opt (o a) := rfl
@[simp] theorem a_chain {o o' : D → D → Option D} : eChain o o' f1 f2 f3 ρ = (f1 ρ).bind fun a => (f2 ρ).bind fun b => (asB (opt (o a b))).bind fun k => if k then (f3 ρ).bind fun c => opt (o' b c) else .ok (.bl false) := rfl
@[simp] theorem a_bV : bV f ρ = asB (f ρ) := rfl
@[simp] theorem a_bAnd : bAnd c c' ρ = (c ρ).bind fun k => if k then c' ρ else .ok false := rfl
@[simp] theorem a_bOr : bOr c c' ρ = (c ρ).bind fun k => if k then .ok true else c' ρ := rfl
@[simp] theorem a_bNot : bNot c ρ = (c ρ).bind fun k => .ok (!k) := rfl
@[simp] theorem a_bYes : bYes ρ = .ok true := rfl
@[simp] theorem a_and : eAnd f f2 ρ = (asB (f ρ)).bind fun k => if k then f2 ρ else .ok (.bl false) := rfl
@[simp] theorem a_or : eOr f f2 ρ = (asB (f ρ)).bind fun k => if k then .ok (.bl true) else f2 ρ := rfl
@[simp] theorem a_not : eNot f ρ = (asB (f ρ)).bind fun k => .ok (.bl (!k)) := rfl
@[simp] theorem a_if : eIf c f f2 ρ = (c ρ).bind fun k => if k then f ρ else f2 ρ := rfl
@[simp] theorem a_nil : aNil ρ = .ok [] := rfl
@[simp] theorem a_cons : aCons f a ρ = (f ρ).bind fun d => (a ρ).bind fun ds => .ok (d :: ds) := rfl
@[simp] theorem a_tup : eTup a ρ = (a ρ).bind fun ds => if lim ds.length then .ok (.tup ds) else .error .stuck := rfl
@[simp] theorem a_lst : eLst a ρ = (a ρ).bind fun ds => if lim ds.length then .ok (.lst ds) else .error .stuck := rfl
@[simp] theorem a_call {o : List D → Option D} : eCall o a ρ = (a ρ).bind fun ds => opt (o ds) := rfl
@[simp] theorem a_fn {m : List D → M D} : eFn m a ρ = (a ρ).bind m := rfl
@[simp] theorem a_isi {T : String} : eIsi T f ρ = (f ρ).bind fun d => opt (d.ty.map fun t => .bl (isiB t T)) := rfl
@[simp] theorem a_oNo : oNo ρ = .ok none := rfl
@[simp] theorem a_oI : oI f ρ = (match f ρ with | .ok (.int i) => .ok (some i) | .ok _ => .error .stuck | .error e => .error e) := rfl
@[simp] theorem a_sl {lo hi : Sto → M (Option Int)} : eSl f lo hi ρ = (f ρ).bind fun d => (lo ρ).bind fun l => (hi ρ).bind fun h => opt (d.slice l h) := rfl
@[simp] theorem a_slL {lo hi : Sto → M (Option Int)} : eSlL f lo hi ρ = (f ρ).bind fun d => (lo ρ).bind fun l => (hi ρ).bind fun h => opt (sliceL d l h) := rfl
@[simp] theorem a_lc {b : D → Sto → Option Sto} {is : List Nat} : eLc a b c f is ρ = (match a ρ with
  | .error er => .error er
  | .ok ds => if lim ds.length then (match lcGo b c f (wipeS ρ is) ds with
    | .ok ys => .ok (.lst ys)
    | .error _ => .error .stuck) else .error .stuck) := rfl
@[simp] theorem a_iL : iL f ρ = (match f ρ with | .ok (.lst ds) => .ok ds | .ok (.fls ds) => .ok ds | .ok _ => .error .stuck | .error e => .error e) := rfl
@[simp] theorem a_iT : iT f ρ = (match f ρ with | .ok (.tup ds) => .ok ds | .ok (.ctp ds) => .ok ds | .ok _ => .error .stuck | .error e => .error e) := rfl
@[simp] theorem a_seq : sSeq g h ρ = (match g ρ with | .nx ρ' => h ρ' | r => r) := rfl
@[simp] theorem a_snil : sNil ρ = .nx ρ := rfl
@[simp] theorem a_set : sSet i f ρ = (match f ρ with | .ok d => .nx (ρ.set i (some (.sh d))) | .error e => .er e ρ) := rfl
@[simp] theorem a_setF : sSetF i f ρ = (match f ρ with | .ok d => .nx (ρ.set i (some (.ow d))) | .error e => .er e ρ) := rfl
@[simp] theorem a_expr : sExpr f ρ = (match f ρ with | .ok _ => .nx ρ | .error e => .er e ρ) := rfl
@[simp] theorem a_ret : sRet f ρ = (match f ρ with | .ok d => .rt (.sh d) | .error e => .er e ρ) := rfl
@[simp] theorem a_retF : sRetF f ρ = (match f ρ with | .ok d => .rt (.ow d) | .error e => .er e ρ) := rfl
@[simp] theorem a_retO : sRetO i ρ = (match ρ[i]? with | some (some s) => .rt s | _ => .er .stuck ρ) := rfl
@[simp] theorem a_retN : sRetN ρ = .rt (.sh .non) := rfl
@[simp] theorem a_sIf : sIf c g h ρ = (match c ρ with | .ok true => g ρ | .ok false => h ρ | .error e => .er e ρ) := rfl
@[simp] theorem a_break : sBreak ρ = .bk ρ := rfl
@[simp] theorem a_cont : sCont ρ = .ct ρ := rfl
@[simp] theorem a_raise {ec : EC} {o : Option Int} : sRaise ec o ρ = .er (.exc ec o) ρ := rfl
@[simp] theorem a_while {μ : Sto → Nat} : sWhile μ c g ρ = wl c g (μ ρ) ρ := rfl
@[simp] theorem a_for {b : D → Sto → Option Sto} : sFor a b g ρ = (match a ρ with | .ok ds => fl b g ds ρ | .error e => .er e ρ) := rfl
@[simp] theorem a_frz : sFrz i g ρ = (match ρ[i]? with | some (some (.ow d)) => g (ρ.set i (some (.sh d))) | _ => g ρ) := rfl
@[simp] theorem a_unp {b : D → Sto → Option Sto} : sUnp f b ρ = (match f ρ with | .error e => .er e ρ | .ok d => match b d ρ with | some ρ' => .nx ρ' | none => .er .stuck ρ) := rfl
@[simp] theorem a_par : sPar i j a ρ = (match a ρ with | .error e => .er e ρ | .ok [x, y] => .nx ((ρ.set i (some (.sh x))).set j (some (.sh y))) | .ok _ => .er .stuck ρ) := rfl
@[simp] theorem a_owL {k : List D → Res} : owL i ρ k = (match ρ[i]? with | some (some (.ow (.lst ds))) => k ds | _ => .er .stuck ρ) := rfl
@[simp] theorem a_app : sApp i f ρ = owL i ρ fun ds => match f ρ with | .error e => .er e ρ | .ok d => if lim ds.length then .nx (ρ.set i (some (.ow (.lst (ds ++ [d]))))) else .er .stuck ρ := rfl
@[simp] theorem a_ext : sExt i f ρ = owL i ρ fun ds => match f ρ with | .error e => .er e ρ | .ok (.lst es) => if lim (ds.length + es.length) then .nx (ρ.set i (some (.ow (.lst (ds ++ es))))) else .er .stuck ρ | .ok _ => .er .stuck ρ := rfl
@[simp] theorem a_put : sPut i f2 f ρ = owL i ρ fun ds => match f ρ with | .error e => .er e ρ | .ok d => match f2 ρ with | .error e => .er e ρ | .ok (.int j) => (match ixN ds.length j with | some n => .nx (ρ.set i (some (.ow (.lst (ds.set n d))))) | none => .er .stuck ρ) | .ok _ => .er .stuck ρ := rfl
@[simp] theorem a_aug {o : Int → Int → Int} : sAug i o f ρ = (match ρ[i]? with | some (some (.sh (.int a))) => (match f ρ with | .ok (.int b) => .nx (ρ.set i (some (.sh (.int (o a b))))) | .ok _ => .er .stuck ρ | .error e => .er e ρ) | _ => .er .stuck ρ) := rfl
@[simp] theorem a_nm {x : D} : gNm i x ρ = some (ρ.set i (some (.sh x))) := rfl
@[simp] theorem a_gnil : gsNil [] ρ = some ρ := rfl
@[simp] theorem a_gcons {b : D → Sto → Option Sto} {bs : List D → Sto → Option Sto} {x : D} {xs : List D} : gsCons b bs (x :: xs) ρ = (b x ρ).bind fun ρ' => bs xs ρ' := rfl
@[simp] theorem a_gtp {n : Nat} {bs : List D → Sto → Option Sto} {xs : List D} : gTp n bs (.tup xs) ρ = if xs.length = n then bs xs ρ else none := rfl
@[simp] theorem out_rs (d : D) : (Res.rt (.sh d)).out = .ok d := rfl
@[simp] theorem out_ro (d : D) : (Res.rt (.ow d)).out = .ok d := rfl
@[simp] theorem out_nx : (Res.nx ρ).out = .ok .non := rfl
@[simp] theorem out_er {e : Er} : (Res.er e ρ).out = .error e := rfl
@[simp] theorem outF_ro (d : D) : (Res.rt (.ow d)).outF = .ok d := rfl
@[simp] theorem outF_er {e : Er} : (Res.er e ρ).outF = .error e := rfl
@[simp] theorem a_runD {n : Nat} {g : Sto → Res} {ds : List D} {k : Nat} : runD n k g ds = if ds.length = k then (g (startS n ds)).out else .error .stuck := rfl
@[simp] theorem a_runF {n : Nat} {g : Sto → Res} {ds : List D} {k : Nat} : runF n k g ds = if ds.length = k then (g (startS n ds)).outF else .error .stuck := rfl
@[simp] theorem a_start {n : Nat} {ds : List D} : startS n ds = ds.map (fun d => some (Sl.sh d)) ++ List.replicate (n - ds.length) none := rfl
@[simp] theorem a_wipe0 : wipeS ρ [] = ρ := rfl
@[simp] theorem a_wipe {v : Nat} {vs : List Nat} : wipeS ρ (v :: vs) = (wipeS ρ vs).set v none := rfl
end
section
@[simp] theorem p_add (a b : Int) : D.add (.int a) (.int b) = some (.int (a + b)) := rfl
@[simp] theorem p_sub (a b : Int) : D.sub (.int a) (.int b) = some (.int (a - b)) := rfl
@[simp] theorem p_neg (a : Int) : D.neg (.int a) = some (.int (-a)) := rfl
@[simp] theorem p_cmp (p : Int → Int → Bool) (a b : Int) : cmpI p (.int a) (.int b) = some (.bl (p a b)) := rfl
@[simp] theorem p_len (xs : List Int) : gLen [intL xs] = some (.int xs.length) := by simp [gLen, intL, D.items]
@[simp] theorem p_eqi (a b : Int) : D.eq (.int a) (.int b) = some (.bl (decide (a = b))) := eq_int a b
@[simp] theorem p_nei (a b : Int) : D.ne (.int a) (.int b) = some (.bl (!decide (a = b))) := ne_int a b
@[simp] theorem p_eqL (a b : List Int) : D.eq (intL a) (intL b) = some (.bl (decide (a = b))) := eq_intL a b
@[simp] theorem p_neL (a b : List Int) : D.ne (intL a) (intL b) = some (.bl (!decide (a = b))) := ne_intL a b
end
end DL

namespace DL.R

/-! ### rows that go round for ever -/
def row (h l : List Int) (t : Nat) : Int := if t < h.length then h.getD t 0 else l.getD ((t - h.length) % l.length) 0
def Per (f : Nat → Int) (k p : Nat) : Prop := 0 < p ∧ ∀ t, k ≤ t → f (t + p) = f t
theorem row_lo {h l : List Int} {t : Nat} (ht : t < h.length) : row h l t = h.getD t 0 := by unfold row; rw [if_pos ht]
theorem row_hi {h l : List Int} {j : Nat} : row h l (h.length + j) = l.getD (j % l.length) 0 := by
  unfold row
  rw [if_neg (by omega)]
  congr 2
  omega
theorem per_row {h l : List Int} (hl : l ≠ []) : Per (row h l) h.length l.length := by
  refine ⟨List.length_pos_iff.mpr hl, fun t ht => ?_⟩
  obtain ⟨j, rfl⟩ : ∃ j, t = h.length + j := ⟨t - h.length, by omega⟩
  rw [Nat.add_assoc, row_hi, row_hi, Nat.add_mod_right]
theorem per_mul {f : Nat → Int} {k p : Nat} (hp : Per f k p) : ∀ (m t : Nat), k ≤ t → f (t + m * p) = f t
  | 0, t, _ => by rw [Nat.zero_mul, Nat.add_zero]
  | m + 1, t, h => by
    rw [Nat.succ_mul, ← Nat.add_assoc, hp.2 _ (by omega), per_mul hp m t h]
theorem per_mono {f : Nat → Int} {k k' p : Nat} (hk : k ≤ k') (hp : Per f k p) : Per f k' p := ⟨hp.1, fun t h => hp.2 t (by omega)⟩
theorem per_back {f : Nat → Int} {k k' n p : Nat} (hn : Per f k n) (hp : Per f k' p) : Per f k p := by
  refine ⟨hp.1, fun t h => ?_⟩
  have hn0 := hn.1
  have big : k' ≤ t + k' * n := by
    have : k' * 1 ≤ k' * n := Nat.mul_le_mul_left _ hn0
    omega
  rw [← per_mul hn k' (t + p) (by omega), ← per_mul hn k' t h, ← hp.2 _ big]
  congr 1
  omega
theorem per_common {f : Nat → Int} {k : Nat} : ∀ (m p q : Nat), p + q ≤ m → Per f k p → Per f k q → ∃ g, g ∣ p ∧ g ∣ q ∧ Per f k g
  | 0, p, q, h, hp, hq => by have := hp.1; omega
  | m + 1, p, q, h, hp, hq => by
    have p0 := hp.1
    have q0 := hq.1
    have sub : ∀ {a b : Nat}, Per f k a → Per f k b → a < b → Per f k (b - a) := fun {a b} ha hb hab => ⟨by omega, fun t ht => by
      rw [← ha.2 (t + (b - a)) (by omega), ← hb.2 t ht]
      congr 1
      omega⟩
    rcases Nat.lt_trichotomy p q with c | c | c
    · obtain ⟨g, h1, h2, h3⟩ := per_common m p (q - p) (by omega) hp (sub hp hq c)
      refine ⟨g, h1, ?_, h3⟩
      have := Nat.dvd_add h1 h2
      rwa [show p + (q - p) = q by omega] at this
    · subst c
      exact ⟨p, Nat.dvd_refl _, Nat.dvd_refl _, hp⟩
    · obtain ⟨g, h1, h2, h3⟩ := per_common m (p - q) q (by omega) (sub hq hp c) hq
      refine ⟨g, ?_, h2, h3⟩
      have := Nat.dvd_add h1 h2
      rwa [show p - q + q = p by omega] at this

/-! ### a lap's root -/
theorem flat_len (xs : List Int) : ∀ m : Nat, (List.replicate m xs).flatten.length = m * xs.length
  | 0 => by simp
  | m + 1 => by rw [List.replicate_succ, List.flatten_cons, List.length_append, flat_len xs m, Nat.succ_mul, Nat.add_comm]
theorem flat_get (xs : List Int) : ∀ (m i : Nat), i < m * xs.length → (List.replicate m xs).flatten[i]? = xs[i % xs.length]?
  | 0, i, h => by simp at h
  | m + 1, i, h => by
    rw [List.replicate_succ, List.flatten_cons]
    by_cases hi : i < xs.length
    · rw [List.getElem?_append_left hi, Nat.mod_eq_of_lt hi]
    · rw [List.getElem?_append_right (by omega), flat_get xs m (i - xs.length) (by rw [Nat.succ_mul] at h; omega), Nat.mod_eq_sub_mod (by omega : xs.length ≤ i)]
def Good (l : List Int) (s : Nat) : Prop := (List.replicate (l.length / s) (l.take s)).flatten = l
theorem good_dvd {l : List Int} {s : Nat} (h0 : 0 < s) (h1 : s ≤ l.length) (g : Good l s) : s ∣ l.length := by
  have e := congrArg List.length g
  rw [flat_len, List.length_take, Nat.min_eq_left h1] at e
  exact ⟨l.length / s, by rw [Nat.mul_comm]; exact e.symm⟩
theorem good_get {l : List Int} {s : Nat} (h0 : 0 < s) (h1 : s ≤ l.length) (g : Good l s) (i : Nat) (hi : i < l.length) : l.getD i 0 = l.getD (i % s) 0 := by
  have e := congrArg (fun x => x[i]?) g
  have hl : (l.take s).length = s := by rw [List.length_take, Nat.min_eq_left h1]
  obtain ⟨c, hc⟩ := good_dvd h0 h1 g
  have hm : l.length / s = c := by rw [hc, Nat.mul_div_cancel_left _ h0]
  have e : (List.replicate (l.length / s) (l.take s)).flatten[i]? = l[i]? := e
  rw [flat_get _ _ _ (by rw [hl, hm, Nat.mul_comm]; omega), hl, List.getElem?_take_of_lt (Nat.mod_lt _ h0)] at e
  rw [List.getD_eq_getElem?_getD, List.getD_eq_getElem?_getD, ← e]
theorem good_per {h l : List Int} {s : Nat} (h0 : 0 < s) (h1 : s ≤ l.length) (g : Good l s) : Per (row h l) h.length s := by
  refine ⟨h0, fun t ht => ?_⟩
  obtain ⟨j, rfl⟩ : ∃ j, t = h.length + j := ⟨t - h.length, by omega⟩
  have n0 : 0 < l.length := by omega
  have d := good_dvd h0 h1 g
  rw [Nat.add_assoc, row_hi, row_hi, good_get h0 h1 g _ (Nat.mod_lt _ n0), good_get h0 h1 g (j % l.length) (Nat.mod_lt _ n0), Nat.mod_mod_of_dvd _ d, Nat.mod_mod_of_dvd _ d, Nat.add_mod_right]
theorem per_good {h l : List Int} {s : Nat} (h0 : 0 < s) (d : s ∣ l.length) (n0 : 0 < l.length) (p : Per (row h l) h.length s) : Good l s := by
  have h1 : s ≤ l.length := Nat.le_of_dvd n0 d
  have hl : (l.take s).length = s := by rw [List.length_take, Nat.min_eq_left h1]
  obtain ⟨c, hc⟩ := d
  have hm : l.length / s = c := by rw [hc, Nat.mul_div_cancel_left _ h0]
  unfold Good
  refine List.ext_getElem? fun i => ?_
  by_cases hi : i < l.length
  · have hr := Nat.mod_lt i h0
    rw [flat_get _ _ _ (by rw [hl, hm, Nat.mul_comm]; omega), hl, List.getElem?_take_of_lt hr, List.getElem?_eq_getElem (by omega), List.getElem?_eq_getElem hi]
    have e1 : row h l (h.length + i) = row h l (h.length + i % s) := by
      have q := per_mul p (i / s) (h.length + i % s) (by omega)
      rw [← q]
      congr 1
      have := Nat.mod_add_div i s
      rw [Nat.mul_comm] at this
      omega
    rw [row_hi, row_hi, Nat.mod_eq_of_lt hi, Nat.mod_eq_of_lt (by omega : i % s < l.length), List.getD_eq_getElem?_getD, List.getD_eq_getElem?_getD, List.getElem?_eq_getElem hi, List.getElem?_eq_getElem (by omega : i % s < l.length)] at e1
    exact congrArg some e1.symm
  · rw [List.getElem?_eq_none (by rw [flat_len, hl, hm, Nat.mul_comm]; omega), List.getElem?_eq_none (by omega)]
theorem good_all (l : List Int) (n0 : 0 < l.length) : Good l l.length := by
  unfold Good
  rw [Nat.div_self n0, List.take_length]
  simp

/-! ### the least form -/
structure Can0 (f : Nat → Int) (H L : List Int) : Prop where
  ne : L ≠ []
  eq : ∀ t, row H L t = f t
  mn : ∀ s k, 0 < s → s < L.length → s ∣ L.length → ¬ Per f k s
structure Can (f : Nat → Int) (H L : List Int) : Prop extends Can0 f H L where
  lst : H = [] ∨ H.getD (H.length - 1) 0 ≠ L.getD (L.length - 1) 0
theorem Can0.per {f : Nat → Int} {H L : List Int} (c : Can0 f H L) : Per f H.length L.length := by
  have := per_row (h := H) c.ne
  exact ⟨this.1, fun t h => by rw [← c.eq, ← c.eq, this.2 t h]⟩
theorem Can0.len {f : Nat → Int} {H L H' L' : List Int} (c : Can0 f H L) (c' : Can0 f H' L') : L.length ∣ L'.length := by
  have p1 : Per f (max H.length H'.length) L.length := per_mono (Nat.le_max_left _ _) c.per
  have p2 : Per f (max H.length H'.length) L'.length := per_mono (Nat.le_max_right _ _) c'.per
  obtain ⟨g, d1, d2, pg⟩ := per_common _ _ _ (Nat.le_refl _) p1 p2
  have le := Nat.le_of_dvd c.per.1 d1
  by_cases e : g = L.length
  · rw [← e]; exact d2
  · exact (c.mn g _ pg.1 (by omega) d1 pg).elim
theorem Can.head {f : Nat → Int} {H L H' L' : List Int} (c : Can f H L) (c' : Can f H' L') (hl : L.length = L'.length) : ¬ H.length < H'.length := fun h => by
  rcases c'.lst with e | e
  · rw [e] at h; exact absurd h (Nat.not_lt_zero _)
  · apply e
    have p := c.per
    have n0 := c'.per.1
    have a1 : f (H'.length - 1) = H'.getD (H'.length - 1) 0 := by rw [← c'.eq, row_lo (by omega)]
    have a2 : f (H'.length - 1 + L.length) = L'.getD (L'.length - 1) 0 := by
      have e : H'.length - 1 + L.length = H'.length + (L'.length - 1) := by omega
      rw [e, ← c'.eq, row_hi, Nat.mod_eq_of_lt (by omega)]
    rw [← a1, ← a2, p.2 _ (by omega)]
theorem list_ext_getD {xs ys : List Int} (hl : xs.length = ys.length) (h : ∀ i, i < xs.length → xs.getD i 0 = ys.getD i 0) : xs = ys := by
  refine List.ext_getElem hl fun i h1 h2 => ?_
  have := h i h1
  rw [List.getD_eq_getElem?_getD, List.getD_eq_getElem?_getD, List.getElem?_eq_getElem h1, List.getElem?_eq_getElem h2] at this
  exact this
theorem Can.uniq {f : Nat → Int} {H L H' L' : List Int} (c : Can f H L) (c' : Can f H' L') : H = H' ∧ L = L' := by
  have hl : L.length = L'.length := Nat.dvd_antisymm (c.toCan0.len c'.toCan0) (c'.toCan0.len c.toCan0)
  have hh : H.length = H'.length := Nat.le_antisymm (Nat.le_of_not_lt (c'.head c hl.symm)) (Nat.le_of_not_lt (c.head c' hl))
  refine ⟨list_ext_getD hh fun i hi => ?_, list_ext_getD hl fun i hi => ?_⟩
  · rw [← row_lo (l := L) hi, c.eq, ← c'.eq, row_lo (by omega)]
  · have e1 : row H L (H.length + i) = L.getD i 0 := by rw [row_hi, Nat.mod_eq_of_lt hi]
    have e2 : row H' L' (H'.length + i) = L'.getD i 0 := by rw [row_hi, Nat.mod_eq_of_lt (by omega)]
    rw [← e1, ← e2, c.eq, c'.eq, hh]
/-- one choice goes from the head into the lap -/
theorem row_rot (H L : List Int) (x : Int) (t : Nat) : row (H ++ [x]) (L ++ [x]) t = row H (x :: L) t := by
  have at_ : ∀ (xs : List Int) (y : Int), (xs ++ [y]).getD xs.length 0 = y := fun xs y => by simp
  have lo_ : ∀ (xs : List Int) (y : Int) (i : Nat), i < xs.length → (xs ++ [y]).getD i 0 = xs.getD i 0 := fun xs y i h => by
    rw [List.getD_eq_getElem?_getD, List.getElem?_append_left h, ← List.getD_eq_getElem?_getD]
  rcases Nat.lt_trichotomy t H.length with c | c | c
  · rw [row_lo c, row_lo (by rw [List.length_append]; simp; omega), lo_ _ _ _ c]
  · subst c
    rw [row_lo (by rw [List.length_append]; simp), at_]
    have := row_hi (h := H) (l := x :: L) (j := 0)
    rw [Nat.add_zero] at this
    rw [this, Nat.zero_mod]
    rfl
  · obtain ⟨j, rfl⟩ : ∃ j, t = H.length + (j + 1) := ⟨t - H.length - 1, by omega⟩
    have e1 : H.length + (j + 1) = (H ++ [x]).length + j := by rw [List.length_append]; simp; omega
    rw [row_hi, e1, row_hi, List.length_append, List.length_cons]
    show (L ++ [x]).getD (j % (L.length + 1)) 0 = (x :: L).getD ((j + 1) % (L.length + 1)) 0
    have hj : j % (L.length + 1) < L.length + 1 := Nat.mod_lt j (Nat.succ_pos L.length)
    by_cases q : j % (L.length + 1) = L.length
    · have e2 : (j + 1) % (L.length + 1) = 0 := by
        rw [Nat.add_mod, q]
        by_cases z : L.length = 0
        · rw [z]
        · rw [Nat.mod_eq_of_lt (by omega : 1 < L.length + 1), Nat.mod_self]
      rw [q, e2, at_]
      rfl
    · have e2 : (j + 1) % (L.length + 1) = j % (L.length + 1) + 1 := by
        rw [Nat.add_mod]
        have z : L.length ≠ 0 := fun z => by rw [z] at hj q; omega
        rw [Nat.mod_eq_of_lt (by omega : 1 < L.length + 1), Nat.mod_eq_of_lt (by omega)]
      rw [e2, lo_ _ _ _ (by omega), List.getD_cons_succ]
theorem Can0.rot {f : Nat → Int} {H L : List Int} {x : Int} (c : Can0 f (H ++ [x]) (L ++ [x])) : Can0 f H (x :: L) :=
  ⟨List.cons_ne_nil _ _, fun t => by rw [← row_rot, c.eq], fun s k h0 h1 d => c.mn s k h0 (by rw [List.length_append]; simpa using h1) (by rw [List.length_append]; simpa using d)⟩
/-- the lap's root serves as well as the lap -/
theorem can0_root {h l : List Int} {s : Nat} (h0 : 0 < s) (h1 : s ≤ l.length) (g : Good l s) (mn : ∀ u, 0 < u → u < s → ¬ Good l u) : Can0 (row h l) h (l.take s) := by
  have hl : (l.take s).length = s := by rw [List.length_take, Nat.min_eq_left h1]
  have n0 : 0 < l.length := by omega
  have d := good_dvd h0 h1 g
  refine ⟨fun z => by rw [z] at hl; simp at hl; omega, fun t => ?_, fun u k u0 u1 ud pu => ?_⟩
  · by_cases ht : t < h.length
    · rw [row_lo ht, row_lo ht]
    · obtain ⟨j, rfl⟩ : ∃ j, t = h.length + j := ⟨t - h.length, by omega⟩
      rw [row_hi, row_hi, hl, good_get h0 h1 g (j % l.length) (Nat.mod_lt _ n0), Nat.mod_mod_of_dvd _ d]
      rw [List.getD_eq_getElem?_getD, List.getElem?_take_of_lt (Nat.mod_lt _ h0), ← List.getD_eq_getElem?_getD]
  · rw [hl] at u1 ud
    refine mn u u0 u1 (per_good (h := h) u0 (Nat.dvd_trans ud d) n0 (per_back (per_row fun z => ?_) pu))
    rw [z] at n0; simp at n0

/-! ### the first turn at which two rows differ -/
def fd (f g : Nat → Int) : Nat → Nat → Option Nat
  | _, 0 => none
  | t, n + 1 => if f t = g t then fd f g (t + 1) n else some t
theorem fd_none {f g : Nat → Int} : ∀ {n t : Nat}, fd f g t n = none → ∀ u, t ≤ u → u < t + n → f u = g u
  | 0, t, _, u, h1, h2 => by omega
  | n + 1, t, h, u, h1, h2 => by
    unfold fd at h
    split at h
    · rename_i e
      by_cases z : u = t
      · subst z; exact e
      · exact fd_none h u (by omega) (by omega)
    · cases h
theorem fd_some {f g : Nat → Int} : ∀ {n t v : Nat}, fd f g t n = some v → t ≤ v ∧ v < t + n ∧ f v ≠ g v ∧ ∀ u, t ≤ u → u < v → f u = g u
  | 0, t, v, h => by cases h
  | n + 1, t, v, h => by
    unfold fd at h
    split at h
    · rename_i e
      obtain ⟨a, b, c, d⟩ := fd_some h
      refine ⟨by omega, by omega, c, fun u h1 h2 => ?_⟩
      by_cases z : u = t
      · subst z; exact e
      · exact d u (by omega) h2
    · rename_i e
      cases h
      exact ⟨Nat.le_refl _, by omega, e, fun u h1 h2 => by omega⟩
def Fst (f g : Nat → Int) : Option Nat → Prop
  | none => ∀ t, f t = g t
  | some v => f v ≠ g v ∧ ∀ u, u < v → f u = g u
theorem Fst.uniq {f g : Nat → Int} {o o' : Option Nat} (h : Fst f g o) (h' : Fst f g o') : o = o' := by
  cases o with
  | none =>
    cases o' with
    | none => rfl
    | some v => exact absurd (h v) h'.1
  | some u =>
    cases o' with
    | none => exact absurd (h' u) h.1
    | some v =>
      rcases Nat.lt_trichotomy u v with c | c | c
      · exact absurd (h'.2 u c) h.1
      · rw [c]
      · exact absurd (h.2 v c) h'.1
theorem Fst.symm {f g : Nat → Int} {o : Option Nat} (h : Fst f g o) : Fst g f o := by
  cases o with
  | none => exact fun t => (h t).symm
  | some v => exact ⟨fun e => h.1 e.symm, fun u q => (h.2 u q).symm⟩
theorem fst_fd {h1 l1 h2 l2 : List Int} (n1 : l1 ≠ []) (n2 : l2 ≠ []) : Fst (row h1 l1) (row h2 l2) (fd (row h1 l1) (row h2 l2) 0 (max h1.length h2.length + l1.length * l2.length)) := by
  cases e : fd (row h1 l1) (row h2 l2) 0 (max h1.length h2.length + l1.length * l2.length) with
  | some v =>
    obtain ⟨_, _, c, d⟩ := fd_some e
    exact ⟨c, fun u hu => d u (Nat.zero_le _) hu⟩
  | none =>
    have q := fd_none e
    have p1 : Per (row h1 l1) (max h1.length h2.length) l1.length := per_mono (Nat.le_max_left _ _) (per_row n1)
    have p2 : Per (row h2 l2) (max h1.length h2.length) l2.length := per_mono (Nat.le_max_right _ _) (per_row n2)
    have a1 := p1.1
    have a2 := p2.1
    intro t
    by_cases ht : t < max h1.length h2.length
    · exact q t (Nat.zero_le _) (by omega)
    · obtain ⟨j, rfl⟩ : ∃ j, t = max h1.length h2.length + j := ⟨t - max h1.length h2.length, by omega⟩
      have n0 : 0 < l1.length * l2.length := Nat.mul_pos a1 a2
      have hr := Nat.mod_lt j n0
      have e0 := Nat.mod_add_div j (l1.length * l2.length)
      have e1 := per_mul p1 (l2.length * (j / (l1.length * l2.length))) (max h1.length h2.length + j % (l1.length * l2.length)) (by omega)
      have e2 := per_mul p2 (l1.length * (j / (l1.length * l2.length))) (max h1.length h2.length + j % (l1.length * l2.length)) (by omega)
      have x1 : max h1.length h2.length + j % (l1.length * l2.length) + l2.length * (j / (l1.length * l2.length)) * l1.length = max h1.length h2.length + j := by
        rw [show l2.length * (j / (l1.length * l2.length)) * l1.length = l1.length * l2.length * (j / (l1.length * l2.length)) by simp only [Nat.mul_comm, Nat.mul_left_comm, Nat.mul_assoc]]
        omega
      have x2 : max h1.length h2.length + j % (l1.length * l2.length) + l1.length * (j / (l1.length * l2.length)) * l2.length = max h1.length h2.length + j := by
        rw [show l1.length * (j / (l1.length * l2.length)) * l2.length = l1.length * l2.length * (j / (l1.length * l2.length)) by simp only [Nat.mul_comm, Nat.mul_left_comm, Nat.mul_assoc]]
        omega
      rw [x1] at e1
      rw [x2] at e2
      rw [e1, e2]
      exact q _ (Nat.zero_le _) (by omega)
end DL.R

namespace DL
open PySem PySem.Spec PyProof.Rows L2
abbrev top (i : Nat) : Stmt := PySem.Challenge.pw_dueturns_k44_first_apart.main.body.getD i (.Pass ⟨0, 0, 0, 0⟩)
abbrev s_is_whole : Stmt := top 4
abbrev s_is_within : Stmt := top 7
abbrev s_are_claimants : Stmt := top 8
abbrev s_is_running : Stmt := top 9
abbrev s_check_running : Stmt := top 10
abbrev s_choice_in_row : Stmt := top 11
abbrev s_root_of : Stmt := top 12
abbrev s_least_of : Stmt := top 13
abbrev s_first_apart : Stmt := top 14
abbrev s_L_cell_at : Stmt := top 16
abbrev s_L_draw : Stmt := top 17
abbrev s_L_choices : Stmt := top 18
abbrev s_L_running : Stmt := top 19
abbrev s_L_unrolled : Stmt := top 20
abbrev s_L_changed : Stmt := top 21
abbrev s_L_apart : Stmt := top 22
abbrev s_law : Stmt := top 23
structure Tx (K : PySem.W.Frag) (mg : Str → Option Value) : Prop where
  b_all : mg "all" = none
  b_bool : mg "bool" = none
  b_enumerate : mg "enumerate" = none
  b_int : mg "int" = none
  b_isinstance : mg "isinstance" = none
  b_len : mg "len" = none
  b_list : mg "list" = none
  b_max : mg "max" = none
  b_range : mg "range" = none
  b_repr : mg "repr" = none
  b_tuple : mg "tuple" = none
  b_zip : mg "zip" = none
  c_MOST_CLAIMANTS : ∃ t, mg "MOST_CLAIMANTS" = some (.int 6 t)
  x_NoRunning : ExcT K mg .NoRunning
section
variable {P : Program} {w : World} {K : PySem.W.Frag} {mg : Str → Option Value} {base : Heap}
abbrev N_is_whole : List Str := ["thing"]
abbrev g_is_whole : Sto → Res := (sRet (eAnd (eIsi "int" (eRd 0)) (eNot (eIsi "bool" (eRd 0)))))
def m_is_whole : List D → M D := runD 1 1 g_is_whole
theorem sc_is_whole : FnScope N_is_whole ["thing"] (defScope s_is_whole) := ⟨rfl, rfl, rfl, by decide +kernel, rfl, by decide +kernel, by decide +kernel⟩
theorem ok_is_whole (T : Tx K mg) (F : FF K mg "is_whole" s_is_whole ["thing"])  : FnD P w K mg base 1 "is_whole" 1 m_is_whole :=
  ffd F sc_is_whole rfl rfl fun f cdv A outer s H E hr => by have nd := sc_is_whole.nd; have po := passes_of (X := cxOf (L2.CX P w) P w K mg base N_is_whole "is_whole" (defScope s_is_whole) f cdv A outer s H E) rfl; have tk := takes_of (X := cxOf (L2.CX P w) P w K mg base N_is_whole "is_whole" (defScope s_is_whole) f cdv A outer s H E) rfl rfl rfl rfl; exact
    (ss_one (ds_ret (de_and (de_isi (T := "int") (by decide) T.b_isinstance T.b_int (by decide +kernel) (dr_var 0)) (de_one (de_not (de_isi (T := "bool") (by decide) T.b_isinstance T.b_bool (by decide +kernel) (dr_var 0)))))))

abbrev N_is_within : List Str := ["thing", "low", "high"]
abbrev g_is_within : Sto → Res := (sRet (eAnd (eFn m_is_whole (aCons (eVar 0) aNil)) (eChain D.le D.le (eRd 1) (eRd 0) (eRd 2))))
def m_is_within : List D → M D := runD 3 3 g_is_within
theorem sc_is_within : FnScope N_is_within ["thing", "low", "high"] (defScope s_is_within) := ⟨rfl, rfl, rfl, by decide +kernel, rfl, by decide +kernel, by decide +kernel⟩
theorem ok_is_within (T : Tx K mg) (F : FF K mg "is_within" s_is_within ["thing", "low", "high"]) (h_is_whole : FnD P w K mg base 1 "is_whole" 1 m_is_whole) : FnD P w K mg base 2 "is_within" 3 m_is_within :=
  ffd F sc_is_within rfl rfl fun f cdv A outer s H E hr => by have nd := sc_is_within.nd; have po := passes_of (X := cxOf (L2.CX P w) P w K mg base N_is_within "is_within" (defScope s_is_within) f cdv A outer s H E) rfl; have tk := takes_of (X := cxOf (L2.CX P w) P w K mg base N_is_within "is_within" (defScope s_is_within) f cdv A outer s H E) rfl rfl rfl rfl; exact
    (ss_one (ds_ret (de_and (de_fn h_is_whole (hr.mono (by decide)) tk (ad_cons (de_var 0) ad_nil)) (de_one (de_chain opi_cmp opi_cmp op_le op_le (dr_var 1) (dr_var 0) (dr_var 2))))))

abbrev N_are_claimants : List Str := ["thing", "many", "one"]
abbrev g_are_claimants : Sto → Res := (sRet (eAnd (eIsi "list" (eRd 0)) (eCall gAll (aCons (eLc (iL (eVar 0)) (gNm 2) bYes (eFn m_is_within (aCons (eVar 2) (aCons (eC (.int 0)) (aCons (eBin D.sub (eRd 1) (eC (.int 1))) aNil)))) [2]) aNil))))
def m_are_claimants : List D → M D := runD 3 2 g_are_claimants
theorem sc_are_claimants : FnScope N_are_claimants ["thing", "many"] (defScope s_are_claimants) := ⟨rfl, rfl, rfl, by decide +kernel, rfl, by decide +kernel, by decide +kernel⟩
theorem ok_are_claimants (T : Tx K mg) (F : FF K mg "are_claimants" s_are_claimants ["thing", "many"]) (h_is_within : FnD P w K mg base 2 "is_within" 3 m_is_within) : FnD P w K mg base 3 "are_claimants" 2 m_are_claimants :=
  ffd F sc_are_claimants rfl rfl fun f cdv A outer s H E hr => by have nd := sc_are_claimants.nd; have po := passes_of (X := cxOf (L2.CX P w) P w K mg base N_are_claimants "are_claimants" (defScope s_are_claimants) f cdv A outer s H E) rfl; have tk := takes_of (X := cxOf (L2.CX P w) P w K mg base N_are_claimants "are_claimants" (defScope s_are_claimants) f cdv A outer s H E) rfl rfl rfl rfl; exact
    (ss_one (ds_ret (de_and (de_isi (T := "list") (by decide) T.b_isinstance T.b_list (by decide +kernel) (dr_var 0)) (de_one (de_callB ci_all (cr_all rfl) T.b_all (ar_cons (rd (fz (df_lc nd [("one", 2)] (di_list (de_var 0)) (show blkC N_are_claimants (defScope s_are_claimants) _ _ = true by decide +kernel) (fun _ _ _ _ _ => (dg_nm 2 nd)) (fun _ _ _ _ _ => ts_nil) (fun _ _ _ _ _ => (de_fn h_is_within (hr.mono (by decide)) takes0 (ad_cons (de_var 2) (ad_cons de_int (ad_cons (de_op opi_sub op_sub (dr_var 1) (rd de_int)) ad_nil)))))))) ar_nil))))))

abbrev N_is_running : List Str := ["thing"]
abbrev g_is_running : Sto → Res := (sSeq (sIf (bOr (bNot (bV (eIsi "tuple" (eRd 0)))) (bOr (bV (eBin D.ne (eCall gLen (aCons (eRd 0) aNil)) (eC (.int 2)))) (bNot (bV (eFn m_are_claimants (aCons (eBin D.item (eRd 0) (eC (.int 0))) (aCons (eC (.int 6)) aNil)))))))
    (sRet (eC (.bl false)))
    sNil)
    (sRet (eAnd (eFn m_are_claimants (aCons (eBin D.item (eRd 0) (eC (.int 1))) (aCons (eC (.int 6)) aNil))) (eBin D.gt (eCall gLen (aCons (eBin D.item (eRd 0) (eC (.int 1))) aNil)) (eC (.int 0))))))
def m_is_running : List D → M D := runD 1 1 g_is_running
theorem sc_is_running : FnScope N_is_running ["thing"] (defScope s_is_running) := ⟨rfl, rfl, rfl, by decide +kernel, rfl, by decide +kernel, by decide +kernel⟩
theorem ok_is_running (T : Tx K mg) (F : FF K mg "is_running" s_is_running ["thing"]) (h_are_claimants : FnD P w K mg base 3 "are_claimants" 2 m_are_claimants) : FnD P w K mg base 4 "is_running" 1 m_is_running :=
  ffd F sc_is_running rfl rfl fun f cdv A outer s H E hr => by have nd := sc_is_running.nd; have po := passes_of (X := cxOf (L2.CX P w) P w K mg base N_is_running "is_running" (defScope s_is_running) f cdv A outer s H E) rfl; have tk := takes_of (X := cxOf (L2.CX P w) P w K mg base N_is_running "is_running" (defScope s_is_running) f cdv A outer s H E) rfl rfl rfl rfl; exact
    (ss_cons (ds_if ((wb_or (db_not (db_val (de_isi (T := "tuple") (by decide) T.b_isinstance T.b_tuple (by decide +kernel) (dr_var 0)))) (wb_or (db_cmp opi_ne (op_neD hr.units) (rd (de_callB ci_len call_len T.b_len (ar_cons (dr_var 0) ar_nil))) (rd de_int)) (wb_or1 (db_not (db_val (de_fn h_are_claimants (hr.mono (by decide)) tk (ad_cons (de_ix (dr_var 0) (rd de_int)) (ad_cons (de_globE (by rfl) T.c_MOST_CLAIMANTS) ad_nil))))))))).pt
    (ss_one (ds_ret de_bl))
    ss_nil)
    (ss_one (ds_ret (de_and (de_fn h_are_claimants (hr.mono (by decide)) tk (ad_cons (de_ix (dr_var 0) (rd de_int)) (ad_cons (de_globE (by rfl) T.c_MOST_CLAIMANTS) ad_nil))) (de_one (de_cmp opi_cmp op_gt (rd (de_callB ci_len call_len T.b_len (ar_cons (rd (de_ix (dr_var 0) (rd de_int))) ar_nil))) (rd de_int)))))))

abbrev N_check_running : List Str := ["thing"]
abbrev g_check_running : Sto → Res := (sIf (bNot (bV (eFn m_is_running (aCons (eVar 0) aNil))))
    (sRaise .NoRunning none)
    sNil)
def m_check_running : List D → M D := runD 1 1 g_check_running
theorem sc_check_running : FnScope N_check_running ["thing"] (defScope s_check_running) := ⟨rfl, rfl, rfl, by decide +kernel, rfl, by decide +kernel, by decide +kernel⟩
theorem ok_check_running (T : Tx K mg) (F : FF K mg "check_running" s_check_running ["thing"]) (h_is_running : FnD P w K mg base 4 "is_running" 1 m_is_running) : FnD P w K mg base 5 "check_running" 1 m_check_running :=
  ffd F sc_check_running rfl rfl fun f cdv A outer s H E hr => by have nd := sc_check_running.nd; have po := passes_of (X := cxOf (L2.CX P w) P w K mg base N_check_running "check_running" (defScope s_check_running) f cdv A outer s H E) rfl; have tk := takes_of (X := cxOf (L2.CX P w) P w K mg base N_check_running "check_running" (defScope s_check_running) f cdv A outer s H E) rfl rfl rfl rfl; exact
    (ss_one (ds_if (db_not (db_val (de_fn h_is_running (hr.mono (by decide)) tk (ad_cons (de_var 0) ad_nil))))
    (ss_one (T.x_NoRunning.raise .NoRunning rfl tk))
    ss_nil))

abbrev N_choice_in_row : List Str := ["running", "turn", "head", "lap"]
abbrev g_choice_in_row : Sto → Res := (sSeq (sUnp (eVar 0) (gTp 2 (gsCons (gNm 2) (gsCons (gNm 3) gsNil))))
    (sSeq (sIf (bV (eBin D.le (eRd 1) (eCall gLen (aCons (eRd 2) aNil))))
    (sRet (eBin D.item (eRd 2) (eBin D.sub (eRd 1) (eC (.int 1)))))
    sNil)
    (sRet (eBin D.item (eRd 3) (eBin D.mod (eBin D.sub (eBin D.sub (eRd 1) (eCall gLen (aCons (eRd 2) aNil))) (eC (.int 1))) (eCall gLen (aCons (eRd 3) aNil)))))))
def m_choice_in_row : List D → M D := runD 4 2 g_choice_in_row
theorem sc_choice_in_row : FnScope N_choice_in_row ["running", "turn"] (defScope s_choice_in_row) := ⟨rfl, rfl, rfl, by decide +kernel, rfl, by decide +kernel, by decide +kernel⟩
theorem ok_choice_in_row (T : Tx K mg) (F : FF K mg "choice_in_row" s_choice_in_row ["running", "turn"])  : FnD P w K mg base 1 "choice_in_row" 2 m_choice_in_row :=
  ffd F sc_choice_in_row rfl rfl fun f cdv A outer s H E hr => by have nd := sc_choice_in_row.nd; have po := passes_of (X := cxOf (L2.CX P w) P w K mg base N_choice_in_row "choice_in_row" (defScope s_choice_in_row) f cdv A outer s H E) rfl; have tk := takes_of (X := cxOf (L2.CX P w) P w K mg base N_choice_in_row "choice_in_row" (defScope s_choice_in_row) f cdv A outer s H E) rfl rfl rfl rfl; exact
    (ss_cons (ds_unp (de_var 0) (dg_tp rfl (dgs_cons (dg_nm 2 nd) (dgs_cons (dg_nm 3 nd) dgs_nil))))
    (ss_cons (ds_if (db_cmp opi_cmp op_le (dr_var 1) (rd (de_callB ci_len call_len T.b_len (ar_cons (dr_var 2) ar_nil))))
    (ss_one (ds_ret (de_ix (dr_var 2) (rd (de_op opi_sub op_sub (dr_var 1) (rd de_int))))))
    ss_nil)
    (ss_one (ds_ret (de_ix (dr_var 3) (rd (de_op opi_mod op_mod (rd (de_op opi_sub op_sub (rd (de_op opi_sub op_sub (dr_var 1) (rd (de_callB ci_len call_len T.b_len (ar_cons (dr_var 2) ar_nil))))) (rd de_int))) (rd (de_callB ci_len call_len T.b_len (ar_cons (dr_var 3) ar_nil))))))))))

abbrev N_root_of : List Str := ["lap", "size"]
def mu_root_of_0 : Sto → Nat := fun _ => 1000000
abbrev g_root_of : Sto → Res := (sSeq (sSet 1 (eC (.int 1)))
    (sSeq (sWhile mu_root_of_0 (bV (eBin D.ne (eBin D.mul (eSl (eRd 0) oNo (oI (eVar 1))) (eBin D.fdiv (eCall gLen (aCons (eRd 0) aNil)) (eRd 1))) (eRd 0)))
    (sAug 1 (fun i j => i + j) (eC (.int 1))))
    (sRet (eSl (eRd 0) oNo (oI (eVar 1))))))
def m_root_of : List D → M D := runD 2 1 g_root_of
theorem sc_root_of : FnScope N_root_of ["lap"] (defScope s_root_of) := ⟨rfl, rfl, rfl, by decide +kernel, rfl, by decide +kernel, by decide +kernel⟩
theorem ok_root_of (T : Tx K mg) (F : FF K mg "root_of" s_root_of ["lap"])  : FnD P w K mg base 1 "root_of" 1 m_root_of :=
  ffd F sc_root_of rfl rfl fun f cdv A outer s H E hr => by have nd := sc_root_of.nd; have po := passes_of (X := cxOf (L2.CX P w) P w K mg base N_root_of "root_of" (defScope s_root_of) f cdv A outer s H E) rfl; have tk := takes_of (X := cxOf (L2.CX P w) P w K mg base N_root_of "root_of" (defScope s_root_of) f cdv A outer s H E) rfl rfl rfl rfl; exact
    (ss_cons (ds_set 1 nd de_int)
    (ss_cons (ds_while mu_root_of_0 po (db_cmp opi_ne (op_neD hr.units) (rd (de_op opi_mul opr_mul (rd (de_sl (dr_var 0) do_no (do_i (de_var 1)))) (rd (de_op opi_fdiv op_fdivW (rd (de_callB ci_len call_len T.b_len (ar_cons (dr_var 0) ar_nil))) (dr_var 1))))) (dr_var 0))
    (ss_one (ds_aug (g := fun i j => i + j) 1 nd ip_add de_int)))
    (ss_one (ds_ret (de_sl (dr_var 0) do_no (do_i (de_var 1)))))))

abbrev N_least_of : List Str := ["running", "head", "lap"]
def mu_least_of_0 : Sto → Nat := fun _ => 1000000
abbrev g_least_of : Sto → Res := (sSeq (sExpr (eFn m_check_running (aCons (eVar 0) aNil)))
    (sSeq (sSet 1 (eCall gList (aCons (eBin D.item (eRd 0) (eC (.int 0))) aNil)))
    (sSeq (sSet 2 (eFn m_root_of (aCons (eCall gList (aCons (eBin D.item (eRd 0) (eC (.int 1))) aNil)) aNil)))
    (sSeq (sWhile mu_least_of_0 (bAnd (bV (eBin D.ne (eRd 1) (eLst aNil))) (bV (eBin D.eq (eBin D.item (eRd 1) (eUn D.neg (eC (.int 1)))) (eBin D.item (eRd 2) (eUn D.neg (eC (.int 1)))))))
    (sSeq (sSet 1 (eSl (eRd 1) oNo (oI (eUn D.neg (eC (.int 1))))))
    (sSet 2 (eBin D.add (eSl (eRd 2) (oI (eUn D.neg (eC (.int 1)))) oNo) (eSl (eRd 2) oNo (oI (eUn D.neg (eC (.int 1)))))))))
    (sRet (eTup (aCons (eVar 1) (aCons (eVar 2) aNil))))))))
def m_least_of : List D → M D := runD 3 1 g_least_of
theorem sc_least_of : FnScope N_least_of ["running"] (defScope s_least_of) := ⟨rfl, rfl, rfl, by decide +kernel, rfl, by decide +kernel, by decide +kernel⟩
theorem ok_least_of (T : Tx K mg) (F : FF K mg "least_of" s_least_of ["running"]) (h_check_running : FnD P w K mg base 5 "check_running" 1 m_check_running) (h_root_of : FnD P w K mg base 1 "root_of" 1 m_root_of) : FnD P w K mg base 6 "least_of" 1 m_least_of :=
  ffd F sc_least_of rfl rfl fun f cdv A outer s H E hr => by have nd := sc_least_of.nd; have po := passes_of (X := cxOf (L2.CX P w) P w K mg base N_least_of "least_of" (defScope s_least_of) f cdv A outer s H E) rfl; have tk := takes_of (X := cxOf (L2.CX P w) P w K mg base N_least_of "least_of" (defScope s_least_of) f cdv A outer s H E) rfl rfl rfl rfl; exact
    (ss_cons (ds_expr (de_fn h_check_running (hr.mono (by decide)) tk (ad_cons (de_var 0) ad_nil)))
    (ss_cons (ds_set 1 nd (fz (df_callTy cf_list call_list_of T.b_list (ar_cons (rd (de_ix (dr_var 0) (rd de_int))) ar_nil))))
    (ss_cons (ds_set 2 nd (de_fn h_root_of (hr.mono (by decide)) tk (ad_cons (fz (df_callTy cf_list call_list_of T.b_list (ar_cons (rd (de_ix (dr_var 0) (rd de_int))) ar_nil))) ad_nil)))
    (ss_cons (ds_while mu_least_of_0 po ((wb_and (db_cmp opi_ne (op_neD hr.units) (dr_var 1) (rd (fz (df_lst ad_nil)))) (wb_and1 (db_cmp opi_eq (op_eqD hr.units) (rd (de_ix (dr_var 1) (rd (de_neg (rd de_int))))) (rd (de_ix (dr_var 2) (rd (de_neg (rd de_int))))))))).pt
    (ss_cons (ds_set 1 nd (de_sl (dr_var 1) do_no (do_i (de_neg (rd de_int)))))
    (ss_one (ds_set 2 nd (de_op opi_add opr_add (rd (de_sl (dr_var 2) (do_i (de_neg (rd de_int))) do_no)) (rd (de_sl (dr_var 2) do_no (do_i (de_neg (rd de_int))))))))))
    (ss_one (ds_ret (de_tup (ad_cons (de_var 1) (ad_cons (de_var 2) ad_nil)))))))))

abbrev N_first_apart : List Str := ["one", "other", "turn"]
def mu_first_apart_0 : Sto → Nat := fun _ => 1000000
abbrev g_first_apart : Sto → Res := (sSeq (sIf (bV (eBin D.eq (eFn m_least_of (aCons (eVar 0) aNil)) (eFn m_least_of (aCons (eVar 1) aNil))))
    (sRet (eC .non))
    sNil)
    (sSeq (sSet 2 (eC (.int 1)))
    (sSeq (sWhile mu_first_apart_0 (bV (eBin D.eq (eFn m_choice_in_row (aCons (eVar 0) (aCons (eVar 2) aNil))) (eFn m_choice_in_row (aCons (eVar 1) (aCons (eVar 2) aNil)))))
    (sAug 2 (fun i j => i + j) (eC (.int 1))))
    (sRetO 2))))
def m_first_apart : List D → M D := runD 3 2 g_first_apart
theorem sc_first_apart : FnScope N_first_apart ["one", "other"] (defScope s_first_apart) := ⟨rfl, rfl, rfl, by decide +kernel, rfl, by decide +kernel, by decide +kernel⟩
theorem ok_first_apart (T : Tx K mg) (F : FF K mg "first_apart" s_first_apart ["one", "other"]) (h_choice_in_row : FnD P w K mg base 1 "choice_in_row" 2 m_choice_in_row) (h_least_of : FnD P w K mg base 6 "least_of" 1 m_least_of) : FnD P w K mg base 7 "first_apart" 2 m_first_apart :=
  ffd F sc_first_apart rfl rfl fun f cdv A outer s H E hr => by have nd := sc_first_apart.nd; have po := passes_of (X := cxOf (L2.CX P w) P w K mg base N_first_apart "first_apart" (defScope s_first_apart) f cdv A outer s H E) rfl; have tk := takes_of (X := cxOf (L2.CX P w) P w K mg base N_first_apart "first_apart" (defScope s_first_apart) f cdv A outer s H E) rfl rfl rfl rfl; exact
    (ss_cons (ds_if (db_cmp opi_eq (op_eqD hr.units) (rd (de_fn h_least_of (hr.mono (by decide)) tk (ad_cons (de_var 0) ad_nil))) (rd (de_fn h_least_of (hr.mono (by decide)) tk (ad_cons (de_var 1) ad_nil))))
    (ss_one (ds_ret de_non))
    ss_nil)
    (ss_cons (ds_set 2 nd de_int)
    (ss_cons (ds_while mu_first_apart_0 po (db_cmp opi_eq (op_eqD hr.units) (rd (de_fn h_choice_in_row (hr.mono (by decide)) tk (ad_cons (de_var 0) (ad_cons (de_var 2) ad_nil)))) (rd (de_fn h_choice_in_row (hr.mono (by decide)) tk (ad_cons (de_var 1) (ad_cons (de_var 2) ad_nil)))))
    (ss_one (ds_aug (g := fun i j => i + j) 2 nd ip_add de_int)))
    (ss_one (ds_retO 2)))))

abbrev N_L_cell_at : List Str := ["_law_script", "_law_k"]
abbrev g_L_cell_at : Sto → Res := (sSeq (sIf (bV (eBin D.lt (eRd 1) (eCall gLen (aCons (eRd 0) aNil))))
    (sRet (eBin D.item (eRd 0) (eRd 1)))
    sNil)
    (sRet (eC (.int 0))))
def m_L_cell_at : List D → M D := runD 2 2 g_L_cell_at
theorem sc_L_cell_at : FnScope N_L_cell_at ["_law_script", "_law_k"] (defScope s_L_cell_at) := ⟨rfl, rfl, rfl, by decide +kernel, rfl, by decide +kernel, by decide +kernel⟩
theorem ok_L_cell_at (T : Tx K mg) (F : FF K mg "_law_cell_at" s_L_cell_at ["_law_script", "_law_k"])  : FnD P w K mg base 1 "_law_cell_at" 2 m_L_cell_at :=
  ffd F sc_L_cell_at rfl rfl fun f cdv A outer s H E hr => by have nd := sc_L_cell_at.nd; have po := passes_of (X := cxOf (L2.CX P w) P w K mg base N_L_cell_at "_law_cell_at" (defScope s_L_cell_at) f cdv A outer s H E) rfl; have tk := takes_of (X := cxOf (L2.CX P w) P w K mg base N_L_cell_at "_law_cell_at" (defScope s_L_cell_at) f cdv A outer s H E) rfl rfl rfl rfl; exact
    (ss_cons (ds_if (db_cmp opi_cmp op_lt (dr_var 1) (rd (de_callB ci_len call_len T.b_len (ar_cons (dr_var 0) ar_nil))))
    (ss_one (ds_ret (de_ix (dr_var 0) (dr_var 1))))
    ss_nil)
    (ss_one (ds_ret de_int)))

abbrev N_L_draw : List Str := ["_law_cell", "_law_k", "_law_bound", "_law_left", "_law_j", "_law_stir"]
abbrev g_L_draw : Sto → Res := (sSeq (sIf (bV (eBin D.ge (eRd 0) (eBin D.pow (eC (.int 10)) (eC (.int 18)))))
    (sSeq (sSet 3 (eVar 0))
    (sSeq (sFor (iR (aCons (eVar 1) aNil)) (gNm 4)
    (sSet 3 (eBin D.fdiv (eRd 3) (eRd 2))))
    (sRet (eBin D.mod (eRd 3) (eRd 2)))))
    sNil)
    (sSeq (sSet 5 (eBin D.mod (eBin D.mul (eBin D.add (eBin D.add (eBin D.mod (eRd 0) (eC (.int 1000000007))) (eBin D.mul (eC (.int 1009)) (eRd 1))) (eC (.int 17))) (eC (.int 69621))) (eC (.int 2147483647))))
    (sSeq (sSet 5 (eBin D.mod (eBin D.add (eBin D.add (eBin D.mul (eRd 5) (eRd 5)) (eBin D.mul (eC (.int 40503)) (eRd 1))) (eC (.int 5))) (eC (.int 2147483629))))
    (sRet (eBin D.mod (eBin D.fdiv (eBin D.mod (eBin D.mul (eRd 5) (eC (.int 48271))) (eC (.int 2147483647))) (eC (.int 32))) (eRd 2))))))
def m_L_draw : List D → M D := runD 6 3 g_L_draw
theorem sc_L_draw : FnScope N_L_draw ["_law_cell", "_law_k", "_law_bound"] (defScope s_L_draw) := ⟨rfl, rfl, rfl, by decide +kernel, rfl, by decide +kernel, by decide +kernel⟩
theorem ok_L_draw (T : Tx K mg) (F : FF K mg "_law_draw" s_L_draw ["_law_cell", "_law_k", "_law_bound"])  : FnD P w K mg base 1 "_law_draw" 3 m_L_draw :=
  ffd F sc_L_draw rfl rfl fun f cdv A outer s H E hr => by have nd := sc_L_draw.nd; have po := passes_of (X := cxOf (L2.CX P w) P w K mg base N_L_draw "_law_draw" (defScope s_L_draw) f cdv A outer s H E) rfl; have tk := takes_of (X := cxOf (L2.CX P w) P w K mg base N_L_draw "_law_draw" (defScope s_L_draw) f cdv A outer s H E) rfl rfl rfl rfl; exact
    (ss_cons (ds_if (db_cmp opi_cmp op_ge (dr_var 0) (rd (de_op opi_pow op_pow (rd de_int) (rd de_int))))
    (ss_cons (ds_set 3 nd (de_var 0))
    (ss_cons (ds_for po rfl (di_rng1 T.b_range (ad_cons (de_var 1) ad_nil)) (dg_nm 4 nd)
    (ss_one (ds_set 3 nd (de_op opi_fdiv op_fdivW (dr_var 3) (dr_var 2)))))
    (ss_one (ds_ret (de_op opi_mod op_mod (dr_var 3) (dr_var 2))))))
    ss_nil)
    (ss_cons (ds_set 5 nd (de_op opi_mod op_mod (rd (de_op opi_mul opr_mul (rd (de_op opi_add opr_add (rd (de_op opi_add opr_add (rd (de_op opi_mod op_mod (dr_var 0) (rd de_int))) (rd (de_op opi_mul opr_mul (rd de_int) (dr_var 1))))) (rd de_int))) (rd de_int))) (rd de_int)))
    (ss_cons (ds_set 5 nd (de_op opi_mod op_mod (rd (de_op opi_add opr_add (rd (de_op opi_add opr_add (rd (de_op opi_mul opr_mul (dr_var 5) (dr_var 5))) (rd (de_op opi_mul opr_mul (rd de_int) (dr_var 1))))) (rd de_int))) (rd de_int)))
    (ss_one (ds_ret (de_op opi_mod op_mod (rd (de_op opi_fdiv op_fdivW (rd (de_op opi_mod op_mod (rd (de_op opi_mul opr_mul (dr_var 5) (rd de_int))) (rd de_int))) (rd de_int))) (dr_var 2)))))))

abbrev N_L_choices : List Str := ["_law_script", "_law_at", "_law_many", "_law_size", "_law_found", "_law_k"]
abbrev g_L_choices : Sto → Res := (sSeq (sSetF 4 (eLst aNil))
    (sSeq (sFor (iR (aCons (eVar 3) aNil)) (gNm 5)
    (sApp 4 (eFn m_L_draw (aCons (eFn m_L_cell_at (aCons (eVar 0) (aCons (eBin D.add (eRd 1) (eBin D.fdiv (eRd 5) (eC (.int 12)))) aNil))) (aCons (eBin D.add (eC (.int 3)) (eBin D.mod (eRd 5) (eC (.int 12)))) (aCons (eVar 2) aNil))))))
    (sRetO 4)))
def m_L_choices : List D → M D := runF 6 4 g_L_choices
theorem sc_L_choices : FnScope N_L_choices ["_law_script", "_law_at", "_law_many", "_law_size"] (defScope s_L_choices) := ⟨rfl, rfl, rfl, by decide +kernel, rfl, by decide +kernel, by decide +kernel⟩
theorem ok_L_choices (T : Tx K mg) (F : FF K mg "_law_choices" s_L_choices ["_law_script", "_law_at", "_law_many", "_law_size"]) (h_L_cell_at : FnD P w K mg base 1 "_law_cell_at" 2 m_L_cell_at) (h_L_draw : FnD P w K mg base 1 "_law_draw" 3 m_L_draw) : FnF P w K mg base 2 "_law_choices" 4 m_L_choices :=
  fff F sc_L_choices rfl rfl fun f cdv A outer s H E hr => by have nd := sc_L_choices.nd; have po := passes_of (X := cxOf (L2.CX P w) P w K mg base N_L_choices "_law_choices" (defScope s_L_choices) f cdv A outer s H E) rfl; have tk := takes_of (X := cxOf (L2.CX P w) P w K mg base N_L_choices "_law_choices" (defScope s_L_choices) f cdv A outer s H E) rfl rfl rfl rfl; exact
    (ss_cons (ds_setF 4 nd (df_lst ad_nil))
    (ss_cons (ds_for po rfl (di_rng1 T.b_range (ad_cons (de_var 3) ad_nil)) (dg_nm 5 nd)
    (ss_one (ds_app 4 (de_fn h_L_draw (hr.mono (by decide)) tk (ad_cons (de_fn h_L_cell_at (hr.mono (by decide)) tk (ad_cons (de_var 0) (ad_cons (de_op opi_add opr_add (dr_var 1) (rd (de_op opi_fdiv op_fdivW (dr_var 5) (rd de_int)))) ad_nil))) (ad_cons (de_op opi_add opr_add (rd de_int) (rd (de_op opi_mod op_mod (dr_var 5) (rd de_int)))) (ad_cons (de_var 2) ad_nil)))))))
    (ss_one (ds_retO 4))))

abbrev N_L_running : List Str := ["_law_script", "_law_at", "_law_many", "_law_cell", "_law_size", "_law_head", "_law_lap", "_law_cut"]
abbrev g_L_running : Sto → Res := (sSeq (sSet 3 (eFn m_L_cell_at (aCons (eVar 0) (aCons (eVar 1) aNil))))
    (sSeq (sSet 4 (eBin D.item (eLst (aCons (eBin D.add (eC (.int 1)) (eFn m_L_draw (aCons (eVar 3) (aCons (eC (.int 0)) (aCons (eC (.int 6)) aNil))))) (aCons (eBin D.add (eC (.int 13)) (eFn m_L_draw (aCons (eVar 3) (aCons (eC (.int 0)) (aCons (eC (.int 36)) aNil))))) aNil))) (eCall gInt (aCons (eBin D.eq (eFn m_L_draw (aCons (eVar 3) (aCons (eC (.int 2)) (aCons (eC (.int 8)) aNil)))) (eC (.int 1))) aNil))))
    (sSeq (sSet 5 (eFn m_L_choices (aCons (eVar 0) (aCons (eBin D.add (eRd 1) (eC (.int 1))) (aCons (eVar 2) (aCons (eBin D.item (eLst (aCons (eFn m_L_draw (aCons (eVar 3) (aCons (eC (.int 1)) (aCons (eC (.int 7)) aNil)))) (aCons (eC (.int 20)) aNil))) (eCall gInt (aCons (eBin D.eq (eFn m_L_draw (aCons (eVar 3) (aCons (eC (.int 2)) (aCons (eC (.int 8)) aNil)))) (eC (.int 2))) aNil))) aNil))))))
    (sSeq (sSet 6 (eFn m_L_choices (aCons (eVar 0) (aCons (eBin D.add (eRd 1) (eC (.int 3))) (aCons (eVar 2) (aCons (eVar 4) aNil))))))
    (sSeq (sIf (bV (eBin D.eq (eFn m_L_draw (aCons (eVar 3) (aCons (eC (.int 3)) (aCons (eC (.int 3)) aNil)))) (eC (.int 1))))
    (sSet 6 (eBin D.mul (eRd 6) (eBin D.add (eC (.int 1)) (eFn m_L_draw (aCons (eVar 3) (aCons (eC (.int 4)) (aCons (eC (.int 3)) aNil)))))))
    sNil)
    (sSeq (sIf (bV (eBin D.eq (eFn m_L_draw (aCons (eVar 3) (aCons (eC (.int 5)) (aCons (eC (.int 3)) aNil)))) (eC (.int 1))))
    (sSeq (sSet 7 (eFn m_L_draw (aCons (eVar 3) (aCons (eC (.int 6)) (aCons (eBin D.add (eCall gLen (aCons (eRd 6) aNil)) (eC (.int 1))) aNil)))))
    (sSeq (sSet 5 (eBin D.add (eRd 5) (eSl (eRd 6) oNo (oI (eVar 7)))))
    (sSet 6 (eBin D.add (eSl (eRd 6) (oI (eVar 7)) oNo) (eSl (eRd 6) oNo (oI (eVar 7)))))))
    sNil)
    (sRet (eTup (aCons (eVar 5) (aCons (eVar 6) aNil))))))))))
def m_L_running : List D → M D := runD 8 3 g_L_running
theorem sc_L_running : FnScope N_L_running ["_law_script", "_law_at", "_law_many"] (defScope s_L_running) := ⟨rfl, rfl, rfl, by decide +kernel, rfl, by decide +kernel, by decide +kernel⟩
theorem ok_L_running (T : Tx K mg) (F : FF K mg "_law_running" s_L_running ["_law_script", "_law_at", "_law_many"]) (h_L_cell_at : FnD P w K mg base 1 "_law_cell_at" 2 m_L_cell_at) (h_L_draw : FnD P w K mg base 1 "_law_draw" 3 m_L_draw) (h_L_choices : FnF P w K mg base 2 "_law_choices" 4 m_L_choices) : FnD P w K mg base 3 "_law_running" 3 m_L_running :=
  ffd F sc_L_running rfl rfl fun f cdv A outer s H E hr => by have nd := sc_L_running.nd; have po := passes_of (X := cxOf (L2.CX P w) P w K mg base N_L_running "_law_running" (defScope s_L_running) f cdv A outer s H E) rfl; have tk := takes_of (X := cxOf (L2.CX P w) P w K mg base N_L_running "_law_running" (defScope s_L_running) f cdv A outer s H E) rfl rfl rfl rfl; exact
    (ss_cons (ds_set 3 nd (de_fn h_L_cell_at (hr.mono (by decide)) tk (ad_cons (de_var 0) (ad_cons (de_var 1) ad_nil))))
    (ss_cons (ds_set 4 nd (de_ix (rd (fz (df_lst (ad_cons (de_op opi_add opr_add (rd de_int) (rd (de_fn h_L_draw (hr.mono (by decide)) tk (ad_cons (de_var 3) (ad_cons de_int (ad_cons de_int ad_nil)))))) (ad_cons (de_op opi_add opr_add (rd de_int) (rd (de_fn h_L_draw (hr.mono (by decide)) tk (ad_cons (de_var 3) (ad_cons de_int (ad_cons de_int ad_nil)))))) ad_nil))))) (rd (de_callTy ci_int call_int1 T.b_int (ar_cons (rd (de_cmp opi_eq (op_eqD hr.units) (rd (de_fn h_L_draw (hr.mono (by decide)) tk (ad_cons (de_var 3) (ad_cons de_int (ad_cons de_int ad_nil))))) (rd de_int))) ar_nil)))))
    (ss_cons (ds_set 5 nd (de_fn h_L_choices.d (hr.mono (by decide)) tk (ad_cons (de_var 0) (ad_cons (de_op opi_add opr_add (dr_var 1) (rd de_int)) (ad_cons (de_var 2) (ad_cons (de_ix (rd (fz (df_lst (ad_cons (de_fn h_L_draw (hr.mono (by decide)) tk (ad_cons (de_var 3) (ad_cons de_int (ad_cons de_int ad_nil)))) (ad_cons de_int ad_nil))))) (rd (de_callTy ci_int call_int1 T.b_int (ar_cons (rd (de_cmp opi_eq (op_eqD hr.units) (rd (de_fn h_L_draw (hr.mono (by decide)) tk (ad_cons (de_var 3) (ad_cons de_int (ad_cons de_int ad_nil))))) (rd de_int))) ar_nil)))) ad_nil))))))
    (ss_cons (ds_set 6 nd (de_fn h_L_choices.d (hr.mono (by decide)) tk (ad_cons (de_var 0) (ad_cons (de_op opi_add opr_add (dr_var 1) (rd de_int)) (ad_cons (de_var 2) (ad_cons (de_var 4) ad_nil))))))
    (ss_cons (ds_if (db_cmp opi_eq (op_eqD hr.units) (rd (de_fn h_L_draw (hr.mono (by decide)) tk (ad_cons (de_var 3) (ad_cons de_int (ad_cons de_int ad_nil))))) (rd de_int))
    (ss_one (ds_set 6 nd (de_op opi_mul opr_mul (dr_var 6) (rd (de_op opi_add opr_add (rd de_int) (rd (de_fn h_L_draw (hr.mono (by decide)) tk (ad_cons (de_var 3) (ad_cons de_int (ad_cons de_int ad_nil))))))))))
    ss_nil)
    (ss_cons (ds_if (db_cmp opi_eq (op_eqD hr.units) (rd (de_fn h_L_draw (hr.mono (by decide)) tk (ad_cons (de_var 3) (ad_cons de_int (ad_cons de_int ad_nil))))) (rd de_int))
    (ss_cons (ds_set 7 nd (de_fn h_L_draw (hr.mono (by decide)) tk (ad_cons (de_var 3) (ad_cons de_int (ad_cons (de_op opi_add opr_add (rd (de_callB ci_len call_len T.b_len (ar_cons (dr_var 6) ar_nil))) (rd de_int)) ad_nil)))))
    (ss_cons (ds_set 5 nd (de_op opi_add opr_add (dr_var 5) (rd (de_sl (dr_var 6) do_no (do_i (de_var 7))))))
    (ss_one (ds_set 6 nd (de_op opi_add opr_add (rd (de_sl (dr_var 6) (do_i (de_var 7)) do_no)) (rd (de_sl (dr_var 6) do_no (do_i (de_var 7)))))))))
    ss_nil)
    (ss_one (ds_ret (de_tup (ad_cons (de_var 5) (ad_cons (de_var 6) ad_nil)))))))))))

abbrev N_L_unrolled : List Str := ["_law_running_here", "_law_turns", "_law_found"]
def mu_L_unrolled_0 : Sto → Nat := fun _ => 1000000
abbrev g_L_unrolled : Sto → Res := (sSeq (sSetF 2 (eCall gList (aCons (eBin D.item (eRd 0) (eC (.int 0))) aNil)))
    (sSeq (sWhile mu_L_unrolled_0 (bV (eBin D.lt (eCall gLen (aCons (eRd 2) aNil)) (eRd 1)))
    (sExt 2 (eBin D.item (eRd 0) (eC (.int 1)))))
    (sRetF (eSlL (eRd 2) oNo (oI (eVar 1))))))
def m_L_unrolled : List D → M D := runF 3 2 g_L_unrolled
theorem sc_L_unrolled : FnScope N_L_unrolled ["_law_running_here", "_law_turns"] (defScope s_L_unrolled) := ⟨rfl, rfl, rfl, by decide +kernel, rfl, by decide +kernel, by decide +kernel⟩
theorem ok_L_unrolled (T : Tx K mg) (F : FF K mg "_law_unrolled" s_L_unrolled ["_law_running_here", "_law_turns"])  : FnF P w K mg base 1 "_law_unrolled" 2 m_L_unrolled :=
  fff F sc_L_unrolled rfl rfl fun f cdv A outer s H E hr => by have nd := sc_L_unrolled.nd; have po := passes_of (X := cxOf (L2.CX P w) P w K mg base N_L_unrolled "_law_unrolled" (defScope s_L_unrolled) f cdv A outer s H E) rfl; have tk := takes_of (X := cxOf (L2.CX P w) P w K mg base N_L_unrolled "_law_unrolled" (defScope s_L_unrolled) f cdv A outer s H E) rfl rfl rfl rfl; exact
    (ss_cons (ds_setF 2 nd (df_callTy cf_list call_list_of T.b_list (ar_cons (rd (de_ix (dr_var 0) (rd de_int))) ar_nil)))
    (ss_cons (ds_while mu_L_unrolled_0 po (db_cmp opi_cmp op_lt (rd (de_callB ci_len call_len T.b_len (ar_cons (dr_var 2) ar_nil))) (dr_var 1))
    (ss_one (ds_ext 2 (de_ix (dr_var 0) (rd de_int)))))
    (ss_one (ds_retF (df_sl (dr_var 2) do_no (do_i (de_var 1)))))))

abbrev N_L_changed : List Str := ["_law_running_here", "_law_cell", "_law_head", "_law_lap", "_law_row", "_law_at"]
abbrev g_L_changed : Sto → Res := (sSeq (sUnp (eVar 0) (gTp 2 (gsCons (gNm 2) (gsCons (gNm 3) gsNil))))
    (sSeq (sSetF 4 (eFn m_L_unrolled (aCons (eVar 0) (aCons (eBin D.add (eCall gLen (aCons (eRd 2) aNil)) (eBin D.mul (eC (.int 2)) (eCall gLen (aCons (eRd 3) aNil)))) aNil))))
    (sSeq (sSet 5 (eFn m_L_draw (aCons (eVar 1) (aCons (eC (.int 9)) (aCons (eCall gLen (aCons (eRd 4) aNil)) aNil)))))
    (sSeq (sPut 4 (eVar 5) (eBin D.mod (eBin D.add (eBin D.add (eBin D.item (eRd 4) (eRd 5)) (eC (.int 1))) (eFn m_L_draw (aCons (eVar 1) (aCons (eC (.int 10)) (aCons (eC (.int 5)) aNil))))) (eC (.int 6))))
    (sFrz 4 (sRet (eTup (aCons (eBin D.add (eRd 5) (eC (.int 1))) (aCons (eTup (aCons (eVar 4) (aCons (eCall gList (aCons (eRd 3) aNil)) aNil))) aNil)))))))))
def m_L_changed : List D → M D := runD 6 2 g_L_changed
theorem sc_L_changed : FnScope N_L_changed ["_law_running_here", "_law_cell"] (defScope s_L_changed) := ⟨rfl, rfl, rfl, by decide +kernel, rfl, by decide +kernel, by decide +kernel⟩
theorem ok_L_changed (T : Tx K mg) (F : FF K mg "_law_changed" s_L_changed ["_law_running_here", "_law_cell"]) (h_L_draw : FnD P w K mg base 1 "_law_draw" 3 m_L_draw) (h_L_unrolled : FnF P w K mg base 1 "_law_unrolled" 2 m_L_unrolled) : FnD P w K mg base 2 "_law_changed" 2 m_L_changed :=
  ffd F sc_L_changed rfl rfl fun f cdv A outer s H E hr => by have nd := sc_L_changed.nd; have po := passes_of (X := cxOf (L2.CX P w) P w K mg base N_L_changed "_law_changed" (defScope s_L_changed) f cdv A outer s H E) rfl; have tk := takes_of (X := cxOf (L2.CX P w) P w K mg base N_L_changed "_law_changed" (defScope s_L_changed) f cdv A outer s H E) rfl rfl rfl rfl; exact
    (ss_cons (ds_unp (de_var 0) (dg_tp rfl (dgs_cons (dg_nm 2 nd) (dgs_cons (dg_nm 3 nd) dgs_nil))))
    (ss_cons (ds_setF 4 nd (df_fn h_L_unrolled (hr.mono (by decide)) tk (ad_cons (de_var 0) (ad_cons (de_op opi_add opr_add (rd (de_callB ci_len call_len T.b_len (ar_cons (dr_var 2) ar_nil))) (rd (de_op opi_mul opr_mul (rd de_int) (rd (de_callB ci_len call_len T.b_len (ar_cons (dr_var 3) ar_nil)))))) ad_nil))))
    (ss_cons (ds_set 5 nd (de_fn h_L_draw (hr.mono (by decide)) tk (ad_cons (de_var 1) (ad_cons de_int (ad_cons (de_callB ci_len call_len T.b_len (ar_cons (dr_var 4) ar_nil)) ad_nil)))))
    (ss_cons (ds_put 4 (de_op opi_mod op_mod (rd (de_op opi_add opr_add (rd (de_op opi_add opr_add (rd (de_ix (dr_var 4) (dr_var 5))) (rd de_int))) (rd (de_fn h_L_draw (hr.mono (by decide)) tk (ad_cons (de_var 1) (ad_cons de_int (ad_cons de_int ad_nil))))))) (rd de_int)) (de_var 5))
    (ss_one (ds_frz 4 (ds_ret (de_tup (ad_cons (de_op opi_add opr_add (dr_var 5) (rd de_int)) (ad_cons (de_tup (ad_cons (de_var 4) (ad_cons (fz (df_callTy cf_list call_list_of T.b_list (ar_cons (dr_var 3) ar_nil))) ad_nil))) ad_nil))))))))))

abbrev N_L_apart : List Str := ["_law_one", "_law_other", "_law_far", "_law_turn", "_law_pair"]
abbrev g_L_apart : Sto → Res := (sSeq (sSet 2 (eBin D.add (eCall gMax2 (aCons (eCall gLen (aCons (eBin D.item (eRd 0) (eC (.int 0))) aNil)) (aCons (eCall gLen (aCons (eBin D.item (eRd 1) (eC (.int 0))) aNil)) aNil))) (eBin D.mul (eCall gLen (aCons (eBin D.item (eRd 0) (eC (.int 1))) aNil)) (eCall gLen (aCons (eBin D.item (eRd 1) (eC (.int 1))) aNil)))))
    (sSeq (sFor (iEZ (aCons (eFn m_L_unrolled (aCons (eVar 0) (aCons (eVar 2) aNil))) (aCons (eFn m_L_unrolled (aCons (eVar 1) (aCons (eVar 2) aNil))) aNil))) (gTp 2 (gsCons (gNm 3) (gsCons (gNm 4) gsNil)))
    (sIf (bV (eBin D.ne (eBin D.item (eRd 4) (eC (.int 0))) (eBin D.item (eRd 4) (eC (.int 1)))))
    (sRet (eBin D.add (eRd 3) (eC (.int 1))))
    sNil))
    (sRet (eC .non))))
def m_L_apart : List D → M D := runD 5 2 g_L_apart
theorem sc_L_apart : FnScope N_L_apart ["_law_one", "_law_other"] (defScope s_L_apart) := ⟨rfl, rfl, rfl, by decide +kernel, rfl, by decide +kernel, by decide +kernel⟩
theorem ok_L_apart (T : Tx K mg) (F : FF K mg "_law_apart" s_L_apart ["_law_one", "_law_other"]) (h_L_unrolled : FnF P w K mg base 1 "_law_unrolled" 2 m_L_unrolled) : FnD P w K mg base 2 "_law_apart" 2 m_L_apart :=
  ffd F sc_L_apart rfl rfl fun f cdv A outer s H E hr => by have nd := sc_L_apart.nd; have po := passes_of (X := cxOf (L2.CX P w) P w K mg base N_L_apart "_law_apart" (defScope s_L_apart) f cdv A outer s H E) rfl; have tk := takes_of (X := cxOf (L2.CX P w) P w K mg base N_L_apart "_law_apart" (defScope s_L_apart) f cdv A outer s H E) rfl rfl rfl rfl; exact
    (ss_cons (ds_set 2 nd (de_op opi_add opr_add (rd (de_callB ci_max2 (call_max2 rfl) T.b_max (ar_cons (rd (de_callB ci_len call_len T.b_len (ar_cons (rd (de_ix (dr_var 0) (rd de_int))) ar_nil))) (ar_cons (rd (de_callB ci_len call_len T.b_len (ar_cons (rd (de_ix (dr_var 1) (rd de_int))) ar_nil))) ar_nil)))) (rd (de_op opi_mul opr_mul (rd (de_callB ci_len call_len T.b_len (ar_cons (rd (de_ix (dr_var 0) (rd de_int))) ar_nil))) (rd (de_callB ci_len call_len T.b_len (ar_cons (rd (de_ix (dr_var 1) (rd de_int))) ar_nil)))))))
    (ss_cons (ds_for po rfl (di_enumzip T.b_enumerate T.b_zip (ad_cons (de_fn h_L_unrolled.d (hr.mono (by decide)) tk (ad_cons (de_var 0) (ad_cons (de_var 2) ad_nil))) (ad_cons (de_fn h_L_unrolled.d (hr.mono (by decide)) tk (ad_cons (de_var 1) (ad_cons (de_var 2) ad_nil))) ad_nil))) (dg_tp rfl (dgs_cons (dg_nm 3 nd) (dgs_cons (dg_nm 4 nd) dgs_nil)))
    (ss_one (ds_if (db_cmp opi_ne (op_neD hr.units) (rd (de_ix (dr_var 4) (rd de_int))) (rd (de_ix (dr_var 4) (rd de_int))))
    (ss_one (ds_ret (de_op opi_add opr_add (dr_var 3) (rd de_int))))
    ss_nil)))
    (ss_one (ds_ret de_non))))

abbrev N_law : List Str := ["_law_script", "_law_cell", "_law_first", "_law_second", "_law_cut", "_law_turned", "_law_at", "_law_changed_here", "_law_asked", "_law_one", "_law_other", "_law_due"]
abbrev g_law : Sto → Res := (sSeq (sSet 1 (eFn m_L_cell_at (aCons (eVar 0) (aCons (eC (.int 0)) aNil))))
    (sSeq (sSet 2 (eFn m_L_running (aCons (eVar 0) (aCons (eC (.int 1)) (aCons (eBin D.add (eC (.int 1)) (eFn m_L_draw (aCons (eVar 1) (aCons (eC (.int 0)) (aCons (eC (.int 6)) aNil))))) aNil)))))
    (sSeq (sSet 3 (eFn m_L_running (aCons (eVar 0) (aCons (eC (.int 9)) (aCons (eBin D.add (eC (.int 1)) (eFn m_L_draw (aCons (eVar 1) (aCons (eC (.int 1)) (aCons (eC (.int 3)) aNil))))) aNil)))))
    (sSeq (sSet 4 (eFn m_L_draw (aCons (eVar 1) (aCons (eC (.int 2)) (aCons (eBin D.add (eCall gLen (aCons (eBin D.item (eRd 2) (eC (.int 1))) aNil)) (eC (.int 1))) aNil)))))
    (sSeq (sSet 5 (eTup (aCons (eBin D.add (eBin D.add (eBin D.item (eRd 2) (eC (.int 0))) (eBin D.mul (eBin D.item (eRd 2) (eC (.int 1))) (eC (.int 2)))) (eSl (eBin D.item (eRd 2) (eC (.int 1))) oNo (oI (eVar 4)))) (aCons (eBin D.add (eSl (eBin D.item (eRd 2) (eC (.int 1))) (oI (eVar 4)) oNo) (eSl (eBin D.item (eRd 2) (eC (.int 1))) oNo (oI (eVar 4)))) aNil))))
    (sSeq (sUnp (eFn m_L_changed (aCons (eVar 2) (aCons (eVar 1) aNil))) (gTp 2 (gsCons (gNm 6) (gsCons (gNm 7) gsNil))))
    (sSeq (sSetF 8 (eLst (aCons (eTup (aCons (eVar 2) (aCons (eVar 3) (aCons (eFn m_L_apart (aCons (eVar 2) (aCons (eVar 3) aNil))) aNil)))) (aCons (eTup (aCons (eVar 2) (aCons (eVar 5) (aCons (eC .non) aNil)))) (aCons (eTup (aCons (eVar 2) (aCons (eVar 7) (aCons (eVar 6) aNil)))) aNil)))))
    (sSeq (sApp 8 (eTup (aCons (eVar 3) (aCons (eVar 7) (aCons (eFn m_L_apart (aCons (eVar 3) (aCons (eVar 7) aNil))) aNil)))))
    (sSeq (sFor (iL (eBin D.add (eRd 8) (eSl (eRd 8) oNo (oI (eC (.int 1)))))) (gTp 3 (gsCons (gNm 9) (gsCons (gNm 10) (gsCons (gNm 11) gsNil))))
    (sIf (bOr (bV (eBin D.ne (eCall gRepr (aCons (eFn m_first_apart (aCons (eVar 9) (aCons (eVar 10) aNil))) aNil)) (eCall gRepr (aCons (eRd 11) aNil)))) (bV (eBin D.ne (eCall gRepr (aCons (eFn m_first_apart (aCons (eVar 10) (aCons (eVar 9) aNil))) aNil)) (eCall gRepr (aCons (eRd 11) aNil)))))
    (sRet (eC (.bl false)))
    sNil))
    (sRet (eC (.bl true))))))))))))
def m_law : List D → M D := runD 12 1 g_law
theorem sc_law : FnScope N_law ["_law_script"] (defScope s_law) := ⟨rfl, rfl, rfl, by decide +kernel, rfl, by decide +kernel, by decide +kernel⟩
theorem ok_law (T : Tx K mg) (f : Addr) (cdv : Value) (A : Around) (outer : List Env) (s : Shared) (H : Hp) (E : XK) (hr : Room 7 (A.deeper (envOfC "law" (defScope s_law) s.heap.objs.size f cdv))) (h_first_apart : FnD P w K mg base 7 "first_apart" 2 m_first_apart) (h_L_cell_at : FnD P w K mg base 1 "_law_cell_at" 2 m_L_cell_at) (h_L_draw : FnD P w K mg base 1 "_law_draw" 3 m_L_draw) (h_L_running : FnD P w K mg base 3 "_law_running" 3 m_L_running) (h_L_changed : FnD P w K mg base 2 "_law_changed" 2 m_L_changed) (h_L_apart : FnD P w K mg base 2 "_law_apart" 2 m_L_apart) : PSs (cxOf (L2.CX P w) P w K mg base N_law "law" (defScope s_law) f cdv A outer s H E) (defBody s_law) (TSD ⟨K, mg⟩ (fun cls d _ H' => E cls d H') g_law) := by have nd := sc_law.nd; have po := passes_of (X := cxOf (L2.CX P w) P w K mg base N_law "law" (defScope s_law) f cdv A outer s H E) rfl; have tk := takes_of (X := cxOf (L2.CX P w) P w K mg base N_law "law" (defScope s_law) f cdv A outer s H E) rfl rfl rfl rfl; exact
    (ss_cons (ds_set 1 nd (de_fn h_L_cell_at (hr.mono (by decide)) tk (ad_cons (de_var 0) (ad_cons de_int ad_nil))))
    (ss_cons (ds_set 2 nd (de_fn h_L_running (hr.mono (by decide)) tk (ad_cons (de_var 0) (ad_cons de_int (ad_cons (de_op opi_add opr_add (rd de_int) (rd (de_fn h_L_draw (hr.mono (by decide)) tk (ad_cons (de_var 1) (ad_cons de_int (ad_cons de_int ad_nil)))))) ad_nil)))))
    (ss_cons (ds_set 3 nd (de_fn h_L_running (hr.mono (by decide)) tk (ad_cons (de_var 0) (ad_cons de_int (ad_cons (de_op opi_add opr_add (rd de_int) (rd (de_fn h_L_draw (hr.mono (by decide)) tk (ad_cons (de_var 1) (ad_cons de_int (ad_cons de_int ad_nil)))))) ad_nil)))))
    (ss_cons (ds_set 4 nd (de_fn h_L_draw (hr.mono (by decide)) tk (ad_cons (de_var 1) (ad_cons de_int (ad_cons (de_op opi_add opr_add (rd (de_callB ci_len call_len T.b_len (ar_cons (rd (de_ix (dr_var 2) (rd de_int))) ar_nil))) (rd de_int)) ad_nil)))))
    (ss_cons (ds_set 5 nd (de_tup (ad_cons (de_op opi_add opr_add (rd (de_op opi_add opr_add (rd (de_ix (dr_var 2) (rd de_int))) (rd (de_op opi_mul opr_mul (rd (de_ix (dr_var 2) (rd de_int))) (rd de_int))))) (rd (de_sl (rd (de_ix (dr_var 2) (rd de_int))) do_no (do_i (de_var 4))))) (ad_cons (de_op opi_add opr_add (rd (de_sl (rd (de_ix (dr_var 2) (rd de_int))) (do_i (de_var 4)) do_no)) (rd (de_sl (rd (de_ix (dr_var 2) (rd de_int))) do_no (do_i (de_var 4))))) ad_nil))))
    (ss_cons (ds_unp (de_fn h_L_changed (hr.mono (by decide)) tk (ad_cons (de_var 2) (ad_cons (de_var 1) ad_nil))) (dg_tp rfl (dgs_cons (dg_nm 6 nd) (dgs_cons (dg_nm 7 nd) dgs_nil))))
    (ss_cons (ds_setF 8 nd (df_lst (ad_cons (de_tup (ad_cons (de_var 2) (ad_cons (de_var 3) (ad_cons (de_fn h_L_apart (hr.mono (by decide)) tk (ad_cons (de_var 2) (ad_cons (de_var 3) ad_nil))) ad_nil)))) (ad_cons (de_tup (ad_cons (de_var 2) (ad_cons (de_var 5) (ad_cons de_non ad_nil)))) (ad_cons (de_tup (ad_cons (de_var 2) (ad_cons (de_var 7) (ad_cons (de_var 6) ad_nil)))) ad_nil)))))
    (ss_cons (ds_app 8 (de_tup (ad_cons (de_var 3) (ad_cons (de_var 7) (ad_cons (de_fn h_L_apart (hr.mono (by decide)) tk (ad_cons (de_var 3) (ad_cons (de_var 7) ad_nil))) ad_nil)))))
    (ss_cons (ds_for po rfl (di_list (de_op opi_add opr_add (dr_var 8) (rd (de_sl (dr_var 8) do_no (do_i de_int))))) (dg_tp rfl (dgs_cons (dg_nm 9 nd) (dgs_cons (dg_nm 10 nd) (dgs_cons (dg_nm 11 nd) dgs_nil))))
    (ss_one (ds_if ((wb_or (db_cmp opi_ne (op_neD hr.units) (rd (de_callB ci_repr call_reprD T.b_repr (ar_cons (rd (de_fn h_first_apart (hr.mono (by decide)) tk (ad_cons (de_var 9) (ad_cons (de_var 10) ad_nil)))) ar_nil))) (rd (de_callB ci_repr call_reprD T.b_repr (ar_cons (dr_var 11) ar_nil)))) (wb_or1 (db_cmp opi_ne (op_neD hr.units) (rd (de_callB ci_repr call_reprD T.b_repr (ar_cons (rd (de_fn h_first_apart (hr.mono (by decide)) tk (ad_cons (de_var 10) (ad_cons (de_var 9) ad_nil)))) ar_nil))) (rd (de_callB ci_repr call_reprD T.b_repr (ar_cons (dr_var 11) ar_nil))))))).pt
    (ss_one (ds_ret de_bl))
    ss_nil)))
    (ss_one (ds_ret de_bl)))))))))))
end
end DL

namespace DL
open PySem PySem.Spec PyProof.Rows L2
open R

/-! ### what the program's functions answer -/
abbrev run (h l : List Int) : D := .tup [intL h, intL l]
def Cl (xs : List Int) : Prop := ∀ x ∈ xs, 0 ≤ x ∧ x ≤ 5
structure Ok (h l : List Int) : Prop where
  ch : Cl h
  cl : Cl l
  ne : l ≠ []
  hh : h.length ≤ 1000
  hl : l.length ≤ 500
theorem blsD_yes (xs : List Int) : blsD (xs.map fun _ => D.bl true) = some (xs.map fun _ => true) := by
  induction xs with
  | nil => rfl
  | cons x xs ih => simp [blsD, ih]
theorem mul_intL (xs : List Int) (k : Nat) (hk : k ≤ 1000000) (h : xs.length * k ≤ 1000000) : D.mul (intL xs) (.int k) = some (intL (List.replicate k xs).flatten) := by
  show (if 0 ≤ (k : Int) ∧ (k : Int) ≤ 1000000 ∧ lim ((xs.map D.int).length * (k : Int).toNat) then _ else none) = _
  rw [if_pos ⟨by omega, by omega, by rw [List.length_map]; exact decide_eq_true h⟩]
  simp [intL, List.map_flatten]
theorem add_intL (xs ys : List Int) (h : xs.length + ys.length ≤ 1000000) : D.add (intL xs) (intL ys) = some (intL (xs ++ ys)) := by
  show (if lim ((xs.map D.int).length + (ys.map D.int).length) then _ else none) = _
  rw [if_pos (by rw [List.length_map, List.length_map]; exact decide_eq_true h)]
  simp [intL]
theorem to_intL (xs : List Int) {k : Int} (h : 0 ≤ k) : D.slice (intL xs) none (some k) = some (intL (xs.take k.toNat)) := by
  show some (D.lst (cut _ _ _)) = _
  rw [cut_map, cut_to _ h]
theorem from_intL (xs : List Int) {k : Int} (h : 0 ≤ k) : D.slice (intL xs) (some k) none = some (intL (xs.drop k.toNat)) := by
  show some (D.lst (cut _ _ _)) = _
  rw [cut_map, cut_from _ h]
theorem butlast_intL (xs : List Int) : D.slice (intL xs) none (some (-1)) = some (intL xs.dropLast) := by
  show some (D.lst (cut _ _ _)) = _
  rw [cut_map, cut_butlast]
theorem last_intL (xs : List Int) : D.slice (intL xs) (some (-1)) none = some (intL (xs.drop (xs.length - 1))) := by
  show some (D.lst (cut _ _ _)) = _
  rw [cut_map, cut_last]
theorem item_last (xs : List Int) (x : Int) : D.item (intL (xs ++ [x])) (.int (-1)) = some (.int x) := by
  show atI ((xs ++ [x]).map D.int) (-1) = _
  rw [atI_last (by simp)]
  simp
theorem ne_nilL (xs : List Int) : D.ne (intL xs) (.lst []) = some (.bl (!decide (xs = []))) := ne_intL xs []
theorem log2_small {n k : Nat} (h : n < 2 ^ k) (hk : 0 < k) : n.log2 < k := by
  by_cases z : n = 0
  · subst z
    exact hk
  · exact (Nat.log2_lt z).mpr h
theorem fdiv_small {a b : Int} (hb : 0 < b) (h : b ≤ 1000000) : D.fdiv (.int a) (.int b) = some (.int (a / b)) := by
  show (if 0 < b ∧ b.natAbs.log2 < 9000 then _ else none) = _
  rw [if_pos ⟨hb, Nat.lt_of_lt_of_le (log2_small (k := 30) (by omega) (by omega)) (by omega)⟩]
theorem mod_small {a b : Int} (hb : 0 < b) : D.mod (.int a) (.int b) = some (.int (a % b)) := by
  show (if 0 < b then _ else none) = _
  rw [if_pos hb]
theorem mul_small {a b : Int} (ha : a.natAbs < 2 ^ 90) (hb : b.natAbs < 2 ^ 90) : D.mul (.int a) (.int b) = some (.int (a * b)) := by
  show (if a.natAbs.log2 + b.natAbs.log2 < 1000000 then _ else none) = _
  have h1 := log2_small ha (by omega)
  have h2 := log2_small hb (by omega)
  rw [if_pos (by omega)]
theorem item0 (a b : D) : D.item (.tup [a, b]) (.int 0) = some a := rfl
theorem item1 (a b : D) : D.item (.tup [a, b]) (.int 1) = some b := rfl

theorem v_is_whole (i : Int) : m_is_whole [.int i] = .ok (.bl true) := rfl
theorem v_is_within (i a b : Int) : m_is_within [.int i, .int a, .int b] = .ok (.bl (decide (a ≤ i) && decide (i ≤ b))) := by
  by_cases h : a ≤ i <;> simp [m_is_within, v_is_whole, h]
theorem v_are_claimants {xs : List Int} (h : Cl xs) (hl : xs.length ≤ 1000000) : m_are_claimants [intL xs, .int 6] = .ok (.bl true) := by
  have e : lcGo (gNm 2) bYes (eFn m_is_within (aCons (eVar 2) (aCons (eC (.int 0)) (aCons (eBin D.sub (eRd 1) (eC (.int 1))) aNil)))) [some (.sh (intL xs)), some (.sh (.int 6)), none] (xs.map D.int) = .ok (xs.map fun _ => D.bl true) :=
    lcGo_map D.int (fun _ => D.bl true) xs fun x hx => ⟨_, rfl, rfl, by have := h x hx; simp [v_is_within, this.1, this.2]⟩
  have hl' : lim xs.length = true := decide_eq_true hl
  have al : (xs.map fun _ => true).all id = true := by simp
  simp [m_are_claimants, D.ty, isiB, hl', e, gAll, blsD_yes, al]
theorem v_is_running {h l : List Int} (k : Ok h l) : m_is_running [run h l] = .ok (.bl true) := by
  have h1 := v_are_claimants k.ch (by have := k.hh; omega)
  have h2 := v_are_claimants k.cl (by have := k.hl; omega)
  have h3 : 0 < l.length := List.length_pos_iff.mpr k.ne
  simp [m_is_running, D.ty, isiB, gLen, D.items, item0, item1, h1, h2, h3]
theorem v_check_running {h l : List Int} (k : Ok h l) : m_check_running [run h l] = .ok .non := by
  simp [m_check_running, v_is_running k]
theorem v_choice {h l : List Int} (k : Ok h l) (t : Nat) : m_choice_in_row [run h l, .int (t + 1)] = .ok (.int (row h l t)) := by
  have n0 : 0 < l.length := List.length_pos_iff.mpr k.ne
  by_cases c : t < h.length
  · have e : D.item (intL h) (.int (t : Int)) = some (.int (row h l t)) := by
      rw [item_intL (by omega) (by omega), row_lo c, Int.toNat_natCast]
    have c' : (t : Int) + 1 ≤ h.length := by omega
    simp [m_choice_in_row, c', e]
  · have e : D.item (intL l) (.int (((t : Int) + 1 - h.length - 1) % l.length)) = some (.int (row h l t)) := by
      have q : ((t : Int) + 1 - h.length - 1) % l.length = ((t - h.length) % l.length : Nat) := by
        rw [Int.natCast_emod]
        congr 1
        omega
      have m := Nat.mod_lt (t - h.length) n0
      rw [q, item_intL (by omega) (by omega), Int.toNat_natCast]
      unfold row
      rw [if_neg c]
    have c' : ¬ (t : Int) + 1 ≤ h.length := by omega
    have m : D.mod (.int ((t : Int) + 1 - h.length - 1)) (.int l.length) = _ := mod_small (by omega)
    simp [m_choice_in_row, c', m, e]
theorem root_loop {l : List Int} (hl : l.length ≤ 500) : ∀ (n s : Nat), 0 < s → s ≤ l.length → l.length < n + s → (∀ u, 0 < u → u < s → ¬ Good l u) →
    ∃ s', 0 < s' ∧ s' ≤ l.length ∧ Good l s' ∧ (∀ u, 0 < u → u < s' → ¬ Good l u) ∧
      wl (bV (eBin D.ne (eBin D.mul (eSl (eRd 0) oNo (oI (eVar 1))) (eBin D.fdiv (eCall gLen (aCons (eRd 0) aNil)) (eRd 1))) (eRd 0)))
        (sAug 1 (fun i j => i + j) (eC (.int 1))) n [some (.sh (intL l)), some (.sh (.int s))] = .nx [some (.sh (intL l)), some (.sh (.int s'))]
  | 0, s, h0, h1, h2, _ => by omega
  | n + 1, s, h0, h1, h2, mn => by
    have e1 : D.slice (intL l) none (some (s : Int)) = some (intL (l.take s)) := to_intL l (by omega)
    have e2 : D.fdiv (.int l.length) (.int s) = some (.int ((l.length / s : Nat) : Int)) := by
      rw [fdiv_small (by omega) (by omega)]
      simp
    have lq : l.length / s ≤ l.length := Nat.div_le_self _ _
    have e3 : D.mul (intL (l.take s)) (.int ((l.length / s : Nat) : Int)) = some (intL (List.replicate (l.length / s) (l.take s)).flatten) := mul_intL _ _ (by omega) (by
      rw [List.length_take, Nat.min_eq_left h1]
      have := Nat.mul_div_le l.length s
      omega)
    have ec : (bV (eBin D.ne (eBin D.mul (eSl (eRd 0) oNo (oI (eVar 1))) (eBin D.fdiv (eCall gLen (aCons (eRd 0) aNil)) (eRd 1))) (eRd 0))) [some (.sh (intL l)), some (.sh (.int s))] = .ok (!decide ((List.replicate (l.length / s) (l.take s)).flatten = l)) := by
      simp only [a_bV, a_bin, a_sl, a_oNo, a_oI, a_rd, a_var, a_call, a_cons, a_nil, bind_ok, List.getElem?_cons_zero, List.getElem?_cons_succ, e1, p_len, opt_some, e2, e3, p_neL, asB_bl]
    by_cases g : Good l s
    · refine ⟨s, h0, h1, g, mn, ?_⟩
      have g' : (List.replicate (l.length / s) (l.take s)).flatten = l := g
      unfold wl
      rw [ec, g']
      simp
    · have g' : ¬ (List.replicate (l.length / s) (l.take s)).flatten = l := g
      have sl : s ≠ l.length := fun e => g (e ▸ good_all l (by omega))
      obtain ⟨s', a1, a2, a3, a4, a5⟩ := root_loop hl n (s + 1) (by omega) (by omega) (by omega) fun u u0 u1 => by
        by_cases z : u = s
        · rw [z]; exact g
        · exact mn u u0 (by omega)
      refine ⟨s', a1, a2, a3, a4, ?_⟩
      unfold wl
      rw [ec, decide_eq_false g']
      rw [← a5]
      rfl
theorem v_root_of {l : List Int} (n0 : 0 < l.length) (hl : l.length ≤ 500) : ∃ s, 0 < s ∧ s ≤ l.length ∧ Good l s ∧ (∀ u, 0 < u → u < s → ¬ Good l u) ∧ m_root_of [intL l] = .ok (intL (l.take s)) := by
  obtain ⟨s, a1, a2, a3, a4, a5⟩ := root_loop hl 1000000 1 (by omega) (by omega) (by omega) fun u u0 u1 => by omega
  refine ⟨s, a1, a2, a3, a4, ?_⟩
  have e1 : D.slice (intL l) none (some (s : Int)) = some (intL (l.take s)) := to_intL l (by omega)
  have a5' := a5
  rw [show ((1 : Nat) : Int) = 1 from rfl] at a5'
  simp only [m_root_of, g_root_of, a_runD, a_start, a_seq, a_set, a_c, a_while, mu_root_of_0, List.map_cons, List.map_nil, List.length_cons, List.length_nil, List.cons_append, List.nil_append, List.replicate, List.set, Nat.reduceAdd, Nat.reduceSub, if_true, a5', a_ret, a_sl, a_rd, a_oNo, a_oI, a_var, bind_ok, List.getElem?_cons_zero, List.getElem?_cons_succ, e1, opt_some, out_rs]
end DL

namespace DL
open PySem PySem.Spec PyProof.Rows L2
open R

abbrev leastC : Sto → M Bool := bAnd (bV (eBin D.ne (eRd 1) (eLst aNil))) (bV (eBin D.eq (eBin D.item (eRd 1) (eUn D.neg (eC (.int 1)))) (eBin D.item (eRd 2) (eUn D.neg (eC (.int 1))))))
abbrev leastB : Sto → Res := sSeq (sSet 1 (eSl (eRd 1) oNo (oI (eUn D.neg (eC (.int 1))))))
          (sSet 2 (eBin D.add (eSl (eRd 2) (oI (eUn D.neg (eC (.int 1)))) oNo) (eSl (eRd 2) oNo (oI (eUn D.neg (eC (.int 1)))))))
theorem least_loop {f : Nat → Int} {r : D} : ∀ (n : Nat) (H L : List Int), Can0 f H L → H.length < n → L.length ≤ 900000 →
    ∃ H' L', Can f H' L' ∧ H'.length ≤ H.length ∧ L'.length = L.length ∧
      wl leastC leastB n
        [some (.sh r), some (.sh (intL H)), some (.sh (intL L))] = .nx [some (.sh r), some (.sh (intL H')), some (.sh (intL L'))]
  | 0, H, L, c, h, _ => by omega
  | n + 1, H, L, c, h, q => by
    have l0 : lim 0 = true := rfl
    rcases List.eq_nil_or_concat H with e | ⟨H1, x, e⟩
    · subst e
      refine ⟨[], L, ⟨c, .inl rfl⟩, Nat.le_refl _, rfl, ?_⟩
      have ec : D.ne (intL []) (.lst []) = some (.bl false) := by rw [ne_nilL]; rfl
      have ew : leastC [some (.sh r), some (.sh (intL [])), some (.sh (intL L))] = .ok false := by
        simp only [a_bAnd, a_bV, a_bin, a_rd, a_lst, a_nil, List.getElem?_cons_zero, List.getElem?_cons_succ, bind_ok, List.length_nil, l0, if_true, ec, opt_some, asB_bl]
        rfl
      rw [wl, ew]
    · rw [List.concat_eq_append] at e
      subst e
      obtain ⟨L1, y, rfl⟩ : ∃ L1 y, L = L1 ++ [y] := by
        rcases List.eq_nil_or_concat L with e | ⟨L1, y, e⟩
        · exact absurd e c.ne
        · exact ⟨L1, y, by rw [e, List.concat_eq_append]⟩
      have ec : D.ne (intL (H1 ++ [x])) (.lst []) = some (.bl true) := by rw [ne_nilL]; simp
      have ex := item_last H1 x
      have ey := item_last L1 y
      have ew : leastC [some (.sh r), some (.sh (intL (H1 ++ [x]))), some (.sh (intL (L1 ++ [y])))] = .ok (decide (x = y)) := by
        simp only [a_bAnd, a_bV, a_bin, a_rd, a_lst, a_nil, a_un, a_c, p_neg, List.getElem?_cons_zero, List.getElem?_cons_succ, bind_ok, List.length_nil, l0, if_true, ec, opt_some, asB_bl, ex, ey, p_eqi]
      have hl : (H1 ++ [x]).length = H1.length + 1 := by simp
      have hL : (L1 ++ [y]).length = L1.length + 1 := by simp
      by_cases z : x = y
      · subst z
        obtain ⟨H', L', a1, a3, a4, a2⟩ := least_loop (r := r) n H1 (x :: L1) c.rot (by omega) (by simp at q ⊢; omega)
        refine ⟨H', L', a1, by omega, by rw [a4]; simp, ?_⟩
        have e1 := butlast_intL (H1 ++ [x])
        have e2 := butlast_intL (L1 ++ [x])
        have e3 := last_intL (L1 ++ [x])
        rw [List.dropLast_concat] at e1 e2
        rw [hL, Nat.add_sub_cancel, List.drop_left] at e3
        have e4 := add_intL [x] L1 (by simp at q ⊢; omega)
        have eb : leastB [some (.sh r), some (.sh (intL (H1 ++ [x]))), some (.sh (intL (L1 ++ [x])))] = .nx [some (.sh r), some (.sh (intL H1)), some (.sh (intL (x :: L1)))] := by
          simp only [a_seq, a_set, a_sl, a_bin, a_rd, a_oNo, a_oI, a_un, a_c, p_neg, List.getElem?_cons_zero, List.getElem?_cons_succ, bind_ok, opt_some, e1, e2, e3, e4, List.set, List.singleton_append]
        rw [wl, ew, decide_eq_true rfl]
        simp only [eb]
        exact a2
      · refine ⟨_, _, ⟨c, .inr (by simpa using z)⟩, Nat.le_refl _, rfl, ?_⟩
        rw [wl, ew, decide_eq_false z]
theorem v_least_of {h l : List Int} (k : Ok h l) : ∃ H L, Can (row h l) H L ∧ m_least_of [run h l] = .ok (run H L) := by
  have n0 : 0 < l.length := List.length_pos_iff.mpr k.ne
  obtain ⟨s, a1, a2, a3, a4, a5⟩ := v_root_of n0 k.hl
  have c0 : Can0 (row h l) h (l.take s) := can0_root a1 a2 a3 a4
  obtain ⟨H, L, b1, _, _, b2⟩ := least_loop (r := run h l) 1000000 h (l.take s) c0 (by have := k.hh; omega) (by have := k.hl; rw [List.length_take]; omega)
  refine ⟨H, L, b1, ?_⟩
  have q0 := v_check_running k
  have e1 : gList [intL h] = some (intL h) := rfl
  have e2 : gList [intL l] = some (intL l) := rfl
  have l2 : lim 2 = true := rfl
  simp only [m_least_of, g_least_of, a_runD, a_start, a_seq, a_expr, a_set, a_while, mu_least_of_0, List.map_cons, List.map_nil, List.length_cons, List.length_nil, List.cons_append, List.nil_append, List.replicate, List.set, Nat.reduceAdd, Nat.reduceSub, if_true, a_fn, a_call, a_cons, a_nil, a_bin, a_rd, a_c, a_var, List.getElem?_cons_zero, List.getElem?_cons_succ, bind_ok, item0, item1, opt_some, q0, e1, e2, a5, b2, a_ret, a_tup, l2, out_rs]
theorem eq_run (h l h' l' : List Int) : D.eq (run h l) (run h' l') = some (.bl (decide (h = h' ∧ l = l'))) := by
  have sh : ∀ a b : List Int, SeqAt.shaped (run a b).toP = true := fun a b => by
    unfold run
    rw [D.toP]
    simp only [toPs]
    rw [intL_toP, intL_toP]
    unfold SeqAt.shaped
    simp [PyData.canLay0, PyData.canLayAll0, PyData.depth, PyData.depthAll, canLay_ints, depth_ints]
  unfold D.eq
  rw [sh, sh, if_pos (show (true && true) = true from rfl)]
  unfold run
  rw [D.toP, D.toP]
  simp only [toPs]
  rw [intL_toP, intL_toP, intL_toP, intL_toP]
  simp only [PyData.eqv, PyData.eqvAll, eqvAll_ints, Bool.and_true]
  by_cases a : h = h' <;> by_cases b : l = l' <;> simp [a, b]
def due : Option Nat → D
  | none => .non
  | some t => .int (t + 1)
theorem apart_loop {h1 l1 h2 l2 : List Int} (k1 : Ok h1 l1) (k2 : Ok h2 l2) {v : Nat} (hv : row h1 l1 v ≠ row h2 l2 v) : ∀ (n t : Nat), t ≤ v → v < n + t → (∀ u, u < v → row h1 l1 u = row h2 l2 u) →
    wl (bV (eBin D.eq (eFn m_choice_in_row (aCons (eVar 0) (aCons (eVar 2) aNil))) (eFn m_choice_in_row (aCons (eVar 1) (aCons (eVar 2) aNil)))))
      (sAug 2 (fun i j => i + j) (eC (.int 1))) n [some (.sh (run h1 l1)), some (.sh (run h2 l2)), some (.sh (.int ((t : Int) + 1)))]
      = .nx [some (.sh (run h1 l1)), some (.sh (run h2 l2)), some (.sh (.int ((v : Int) + 1)))]
  | 0, t, h0, h1, _ => by omega
  | n + 1, t, h0, h, hu => by
    have ew : bV (eBin D.eq (eFn m_choice_in_row (aCons (eVar 0) (aCons (eVar 2) aNil))) (eFn m_choice_in_row (aCons (eVar 1) (aCons (eVar 2) aNil)))) [some (.sh (run h1 l1)), some (.sh (run h2 l2)), some (.sh (.int ((t : Int) + 1)))] = .ok (decide (row h1 l1 t = row h2 l2 t)) := by
      simp only [a_bV, a_bin, a_fn, a_cons, a_nil, a_var, List.getElem?_cons_zero, List.getElem?_cons_succ, bind_ok, v_choice k1, v_choice k2, p_eqi, opt_some, asB_bl]
    by_cases z : t = v
    · subst z
      rw [wl, ew, decide_eq_false hv]
    · rw [wl, ew, decide_eq_true (hu t (by omega)), ← apart_loop k1 k2 hv n (t + 1) (by omega) (by omega) hu]
      rfl
theorem v_first_apart {h1 l1 h2 l2 : List Int} (k1 : Ok h1 l1) (k2 : Ok h2 l2) {o : Option Nat} (ho : Fst (row h1 l1) (row h2 l2) o) : m_first_apart [run h1 l1, run h2 l2] = .ok (due o) := by
  obtain ⟨H1, L1, c1, e1⟩ := v_least_of k1
  obtain ⟨H2, L2, c2, e2⟩ := v_least_of k2
  have hq := eq_run H1 L1 H2 L2
  have ho' := ho.uniq (fst_fd k1.ne k2.ne)
  by_cases z : H1 = H2 ∧ L1 = L2
  · have : o = none := ho.uniq (o' := none) fun t => by rw [← c1.eq, ← c2.eq, z.1, z.2]
    subst this
    rw [decide_eq_true z] at hq
    simp only [m_first_apart, g_first_apart, a_runD, a_start, a_seq, a_sIf, a_bV, List.map_cons, List.map_nil, List.length_cons, List.length_nil, List.cons_append, List.nil_append, List.replicate, List.set, Nat.reduceAdd, Nat.reduceSub, if_true, a_fn, a_cons, a_nil, a_bin, a_c, a_var, List.getElem?_cons_zero, List.getElem?_cons_succ, bind_ok, opt_some, e1, e2, hq, asB_bl, a_ret, out_rs, due]
  · cases o with
    | none =>
      refine absurd ?_ z
      exact c1.uniq (f := row h1 l1) ⟨⟨c2.ne, fun t => by rw [c2.eq, ho t], fun s k s0 s1 sd p => c2.mn s k s0 s1 sd ⟨p.1, fun t ht => by rw [← ho, ← ho, p.2 t ht]⟩⟩, c2.lst⟩
    | some v =>
      have hv : v < 1000000 := by
        have q := fd_some ho'.symm
        have := k1.hh
        have := k2.hh
        have : l1.length * l2.length ≤ 500 * 500 := Nat.mul_le_mul k1.hl k2.hl
        omega
      have lp := apart_loop k1 k2 ho.1 1000000 0 (by omega) (by omega) ho.2
      rw [decide_eq_false z] at hq
      rw [show ((0 : Nat) : Int) + 1 = 1 from rfl] at lp
      simp only [m_first_apart, g_first_apart, a_runD, a_start, a_seq, a_sIf, a_bV, List.map_cons, List.map_nil, List.length_cons, List.length_nil, List.cons_append, List.nil_append, List.replicate, List.set, Nat.reduceAdd, Nat.reduceSub, if_true, a_fn, a_cons, a_nil, a_bin, a_c, a_var, List.getElem?_cons_zero, List.getElem?_cons_succ, bind_ok, opt_some, e1, e2, hq, asB_bl, a_snil, a_set, a_while, mu_first_apart_0, lp, a_retO, out_rs, due]
end DL

namespace DL
open PySem PySem.Spec PyProof.Rows L2
open R

/-! ### what the law's own functions answer -/
theorem v_cell (ns : List Int) {k : Int} (h : 0 ≤ k) : ∃ c, m_L_cell_at [scr ns, .int k] = .ok (.int c) := by
  have e0 : gLen [scr ns] = some (.int ns.length) := by simp [gLen, scr, D.items]
  by_cases c : k < ns.length
  · have e := item_scr (xs := ns) h (by omega)
    exact ⟨ns.getD k.toNat 0, by simp only [m_L_cell_at, g_L_cell_at]; simp [e0, c, e]⟩
  · exact ⟨0, by simp [m_L_cell_at, e0, c]⟩
theorem draw_loop {c k b : Int} (hb : 0 < b) (hb2 : b ≤ 1000000) : ∀ (xs : List Int) (l : Int) (x : Option Sl), ∃ l' x',
    fl (gNm 4) (sSet 3 (eBin D.fdiv (eRd 3) (eRd 2))) (xs.map D.int) [some (.sh (.int c)), some (.sh (.int k)), some (.sh (.int b)), some (.sh (.int l)), x, none]
      = .nx [some (.sh (.int c)), some (.sh (.int k)), some (.sh (.int b)), some (.sh (.int l')), x', none]
  | [], l, x => ⟨l, x, rfl⟩
  | y :: ys, l, x => by
    obtain ⟨l', x', e⟩ := draw_loop (c := c) (k := k) hb hb2 ys (l / b) (some (.sh (.int y)))
    refine ⟨l', x', ?_⟩
    have e1 : D.fdiv (.int l) (.int b) = _ := fdiv_small hb hb2
    rw [List.map_cons, fl]
    simp only [a_nm, List.set, a_set, a_bin, a_rd, List.getElem?_cons_zero, List.getElem?_cons_succ, bind_ok, e1, opt_some]
    exact e
theorem rngD_map (lo : Int) (n : Nat) : rngD lo n = ((List.range n).map fun i : Nat => lo + (i : Int)).map D.int := by
  unfold rngD
  rw [List.map_map]
  rfl
theorem v_draw (c : Int) {k b : Int} (h0 : 0 ≤ k) (h1 : k ≤ 1000) (hb : 0 < b) (hb2 : b ≤ 1000000) : ∃ r, 0 ≤ r ∧ r < b ∧ m_L_draw [.int c, .int k, .int b] = .ok (.int r) := by
  have e10 : D.pow (.int 10) (.int 18) = some (.int 1000000000000000000) := rfl
  by_cases g : (1000000000000000000 : Int) ≤ c
  · obtain ⟨l', x', e⟩ := draw_loop (c := c) (k := k) hb hb2 ((List.range k.toNat).map fun i : Nat => 0 + (i : Int)) c none
    rw [← rngD_map] at e
    have r0 : rngOk k = true := by unfold rngOk; simp; omega
    have e1 : D.mod (.int l') (.int b) = _ := mod_small hb
    refine ⟨l' % b, Int.emod_nonneg _ (by omega), Int.emod_lt_of_pos _ hb, ?_⟩
    simp [m_L_draw, e10, g, iR, r0, e, e1]
  · have m1 : D.mod (.int c) (.int 1000000007) = _ := mod_small (by decide)
    have b1 := Int.emod_nonneg c (show (1000000007 : Int) ≠ 0 by decide)
    have b2 := Int.emod_lt_of_pos c (show (0 : Int) < 1000000007 by decide)
    have m2 : D.mul (.int 1009) (.int k) = _ := mul_small (by decide) (by omega)
    have m3 : D.mul (.int (c % 1000000007 + 1009 * k + 17)) (.int 69621) = _ := mul_small (by omega) (by decide)
    have m4 : D.mod (.int ((c % 1000000007 + 1009 * k + 17) * 69621)) (.int 2147483647) = _ := mod_small (by decide)
    generalize hs : (c % 1000000007 + 1009 * k + 17) * 69621 % 2147483647 = s at m4
    have s1 : 0 ≤ s := by rw [← hs]; exact Int.emod_nonneg _ (by decide)
    have s2 : s < 2147483647 := by rw [← hs]; exact Int.emod_lt_of_pos _ (by decide)
    have m5 : D.mul (.int s) (.int s) = _ := mul_small (by omega) (by omega)
    have m6 : D.mul (.int 40503) (.int k) = _ := mul_small (by decide) (by omega)
    have m7 : D.mod (.int (s * s + 40503 * k + 5)) (.int 2147483629) = _ := mod_small (by decide)
    generalize ht : (s * s + 40503 * k + 5) % 2147483629 = t at m7
    have t1 : 0 ≤ t := by rw [← ht]; exact Int.emod_nonneg _ (by decide)
    have t2 : t < 2147483629 := by rw [← ht]; exact Int.emod_lt_of_pos _ (by decide)
    have m8 : D.mul (.int t) (.int 48271) = _ := mul_small (by omega) (by decide)
    have m9 : D.mod (.int (t * 48271)) (.int 2147483647) = _ := mod_small (by decide)
    have m10 : D.fdiv (.int (t * 48271 % 2147483647)) (.int 32) = _ := fdiv_small (by decide) (by decide)
    have m11 : D.mod (.int (t * 48271 % 2147483647 / 32)) (.int b) = _ := mod_small hb
    refine ⟨t * 48271 % 2147483647 / 32 % b, Int.emod_nonneg _ (by omega), Int.emod_lt_of_pos _ hb, ?_⟩
    simp [m_L_draw, e10, g, m1, m2, m3, m4, m5, m6, m7, m8, m9, m10, m11]
def Ch (many : Int) (xs : List Int) : Prop := ∀ x ∈ xs, 0 ≤ x ∧ x < many
theorem choices_loop (ns : List Int) {a m z : Int} (ha : 0 ≤ a) (hm : 0 < m) (hm2 : m ≤ 6) : ∀ (ks : List Int) (xs : List Int) (x : Option Sl), (∀ k ∈ ks, 0 ≤ k) → Ch m xs → xs.length + ks.length ≤ 1000 → ∃ ys x', Ch m ys ∧ ys.length = xs.length + ks.length ∧
    fl (gNm 5) (sApp 4 (eFn m_L_draw (aCons (eFn m_L_cell_at (aCons (eVar 0) (aCons (eBin D.add (eRd 1) (eBin D.fdiv (eRd 5) (eC (.int 12)))) aNil))) (aCons (eBin D.add (eC (.int 3)) (eBin D.mod (eRd 5) (eC (.int 12)))) (aCons (eVar 2) aNil)))))
      (ks.map D.int) [some (.sh (scr ns)), some (.sh (.int a)), some (.sh (.int m)), some (.sh (.int z)), some (.ow (intL xs)), x]
      = .nx [some (.sh (scr ns)), some (.sh (.int a)), some (.sh (.int m)), some (.sh (.int z)), some (.ow (intL ys)), x']
  | [], xs, x, _, hc, _ => ⟨xs, x, hc, rfl, rfl⟩
  | k :: ks, xs, x, hk, hc, hl => by
    have k0 := hk k (List.mem_cons_self ..)
    obtain ⟨c, e1⟩ := v_cell ns (k := a + k / 12) (by omega)
    obtain ⟨r, r0, r1, e2⟩ := v_draw c (k := 3 + k % 12) (b := m) (by omega) (by omega) hm (by omega)
    obtain ⟨ys, x', h1, h2, h3⟩ := choices_loop ns (z := z) ha hm hm2 ks (xs ++ [r]) (some (.sh (.int k))) (fun k h => hk k (List.mem_cons_of_mem _ h)) (fun y hy => by
      rcases List.mem_append.mp hy with h | h
      · exact hc y h
      · rw [List.mem_singleton.mp h]; exact ⟨r0, r1⟩) (by simp at hl ⊢; omega)
    refine ⟨ys, x', h1, by rw [h2]; simp; omega, ?_⟩
    have e3 : D.fdiv (.int k) (.int 12) = _ := fdiv_small (by decide) (by decide)
    have e4 : D.mod (.int k) (.int 12) = _ := mod_small (by decide)
    have e5 : lim (xs.map D.int).length = true := decide_eq_true (by simp at hl ⊢; omega)
    have e6 : intL (xs ++ [r]) = .lst (xs.map D.int ++ [.int r]) := by simp
    rw [List.map_cons, fl]
    simp only [a_nm, List.set, a_app, a_owL, a_fn, a_cons, a_nil, a_var, a_c, a_bin, a_rd, List.getElem?_cons_zero, List.getElem?_cons_succ, bind_ok, p_add, e3, e4, opt_some, e1, e2, e5, if_true]
    rw [← e6]
    exact h3
theorem v_choices (ns : List Int) {a m z : Int} (ha : 0 ≤ a) (hm : 0 < m) (hm2 : m ≤ 6) (hz : 0 ≤ z) (hz2 : z ≤ 1000) : ∃ xs, Ch m xs ∧ (xs.length : Int) = z ∧ m_L_choices [scr ns, .int a, .int m, .int z] = .ok (intL xs) := by
  obtain ⟨ys, x', h1, h2, h3⟩ := choices_loop ns (z := z) ha hm hm2 ((List.range z.toNat).map fun i : Nat => 0 + (i : Int)) [] none (fun k h => by
    obtain ⟨i, _, rfl⟩ := List.mem_map.mp h
    omega) (fun x h => by cases h) (by simp; omega)
  refine ⟨ys, h1, by rw [h2]; simp; omega, ?_⟩
  have r0 : rngOk z = true := by unfold rngOk; simp; omega
  have l0 : lim 0 = true := rfl
  rw [← rngD_map] at h3
  rw [show intL [] = D.lst [] from rfl] at h3
  simp [m_L_choices, iR, r0, h3, l0]
end DL

namespace DL
open PySem PySem.Spec PyProof.Rows L2
open R

theorem Ch.app {m : Int} {xs ys : List Int} (h : Ch m xs) (g : Ch m ys) : Ch m (xs ++ ys) := fun x hx => (List.mem_append.mp hx).elim (h x) (g x)
theorem Ch.take {m : Int} {xs : List Int} (h : Ch m xs) (n : Nat) : Ch m (xs.take n) := fun x hx => h x (List.mem_of_mem_take hx)
theorem Ch.drop {m : Int} {xs : List Int} (h : Ch m xs) (n : Nat) : Ch m (xs.drop n) := fun x hx => h x (List.mem_of_mem_drop hx)
theorem Ch.rep {m : Int} {xs : List Int} (h : Ch m xs) (n : Nat) : Ch m (List.replicate n xs).flatten := fun x hx => by
  obtain ⟨ys, h1, h2⟩ := List.mem_flatten.mp hx
  rw [(List.mem_replicate.mp h1).2] at h2
  exact h x h2
theorem pick2 (a b : Int) (p : Bool) : ∃ z, (z = a ∨ z = b) ∧ D.item (.lst [.int a, .int b]) (.int (if p = true then 1 else 0)) = some (.int z) := by
  cases p
  · exact ⟨a, .inl rfl, rfl⟩
  · exact ⟨b, .inr rfl, rfl⟩
theorem v_running (ns : List Int) {a m : Int} (ha : 0 ≤ a) (hm : 0 < m) (hm2 : m ≤ 6) : ∃ h l, Ch m h ∧ Ch m l ∧ l ≠ [] ∧ h.length ≤ 164 ∧ l.length ≤ 144 ∧ m_L_running [scr ns, .int a, .int m] = .ok (run h l) := by
  obtain ⟨c, ec⟩ := v_cell ns ha
  obtain ⟨d0, p0, q0, e0⟩ := v_draw c (k := 0) (b := 6) (by decide) (by decide) (by decide) (by decide)
  obtain ⟨d36, p36, q36, e36⟩ := v_draw c (k := 0) (b := 36) (by decide) (by decide) (by decide) (by decide)
  obtain ⟨d2, p2, q2, e2⟩ := v_draw c (k := 2) (b := 8) (by decide) (by decide) (by decide) (by decide)
  obtain ⟨d1, p1, q1, e1⟩ := v_draw c (k := 1) (b := 7) (by decide) (by decide) (by decide) (by decide)
  obtain ⟨d3, p3, q3, e3⟩ := v_draw c (k := 3) (b := 3) (by decide) (by decide) (by decide) (by decide)
  obtain ⟨d4, p4, q4, e4⟩ := v_draw c (k := 4) (b := 3) (by decide) (by decide) (by decide) (by decide)
  obtain ⟨d5, p5, q5, e5⟩ := v_draw c (k := 5) (b := 3) (by decide) (by decide) (by decide) (by decide)
  obtain ⟨z, hz, ez⟩ := pick2 (1 + d0) (13 + d36) (decide (d2 = 1))
  obtain ⟨y, hy, ey⟩ := pick2 d1 20 (decide (d2 = 2))
  obtain ⟨xs, cx, lx, ex⟩ := v_choices ns (a := a + 1) (m := m) (z := y) (by omega) hm hm2 (by omega) (by omega)
  obtain ⟨ys, cy, ly, el⟩ := v_choices ns (a := a + 3) (m := m) (z := z) (by omega) hm hm2 (by omega) (by omega)
  have l2 : lim 2 = true := rfl
  have step1 : ∃ ws, Ch m ws ∧ ws ≠ [] ∧ ws.length ≤ 144 ∧ ∀ σ : Sl, (sIf (bV (eBin D.eq (eFn m_L_draw (aCons (eVar 3) (aCons (eC (.int 3)) (aCons (eC (.int 3)) aNil)))) (eC (.int 1))))
      (sSet 6 (eBin D.mul (eRd 6) (eBin D.add (eC (.int 1)) (eFn m_L_draw (aCons (eVar 3) (aCons (eC (.int 4)) (aCons (eC (.int 3)) aNil)))))))
      sNil) [some (.sh (scr ns)), some (.sh (.int a)), some (.sh (.int m)), some (.sh (.int c)), some (.sh (.int z)), some (.sh (intL xs)), some (.sh (intL ys)), none]
      = .nx [some (.sh (scr ns)), some (.sh (.int a)), some (.sh (.int m)), some (.sh (.int c)), some (.sh (.int z)), some (.sh (intL xs)), some (.sh (intL ws)), none] := by
    by_cases g : d3 = 1
    · have em : D.mul (intL ys) (.int ((1 + d4).toNat : Nat)) = _ := mul_intL ys (1 + d4).toNat (by omega) (by
        have : ys.length * (1 + d4).toNat ≤ 48 * 3 := Nat.mul_le_mul (by omega) (by omega)
        omega)
      rw [show (((1 + d4).toNat : Nat) : Int) = 1 + d4 by omega] at em
      refine ⟨_, cy.rep (1 + d4).toNat, fun h => ?_, ?_, fun _ => ?_⟩
      · have := congrArg List.length h
        rw [flat_len] at this
        have h0 : 0 < (1 + d4).toNat * ys.length := Nat.mul_pos (by omega) (by omega)
        simp at this
        omega
      · rw [flat_len]
        have : (1 + d4).toNat * ys.length ≤ 3 * 48 := Nat.mul_le_mul (by omega) (by omega)
        omega
      · simp only [a_sIf, a_bV, a_bin, a_fn, a_cons, a_nil, a_var, a_c, List.getElem?_cons_zero, List.getElem?_cons_succ, bind_ok, e3, p_eqi, g, decide_true, opt_some, asB_bl, a_set, a_rd, e4, p_add, em, List.set]
    · refine ⟨ys, cy, fun h => by subst h; simp at ly; omega, by omega, fun _ => ?_⟩
      simp only [a_sIf, a_bV, a_bin, a_fn, a_cons, a_nil, a_var, a_c, List.getElem?_cons_zero, List.getElem?_cons_succ, bind_ok, e3, p_eqi, g, decide_false, opt_some, asB_bl, a_snil]
  obtain ⟨ws, cw, nw, lw, ew⟩ := step1
  have ew := ew (.sh .non)
  have w0 : 0 < ws.length := List.length_pos_iff.mpr nw
  obtain ⟨d6, p6, q6, e6⟩ := v_draw c (k := 6) (b := (ws.length : Int) + 1) (by decide) (by decide) (by omega) (by omega)
  have et := to_intL ws p6
  have ef := from_intL ws p6
  have t6 : (ws.take d6.toNat).length ≤ 144 := by rw [List.length_take]; omega
  have f6 : (ws.drop d6.toNat).length ≤ 144 := by rw [List.length_drop]; omega
  have ea := add_intL xs (ws.take d6.toNat) (by omega)
  have eb := add_intL (ws.drop d6.toNat) (ws.take d6.toNat) (by omega)
  have step2 : ∃ hs ls x, Ch m hs ∧ Ch m ls ∧ ls ≠ [] ∧ hs.length ≤ 164 ∧ ls.length ≤ 144 ∧ (sIf (bV (eBin D.eq (eFn m_L_draw (aCons (eVar 3) (aCons (eC (.int 5)) (aCons (eC (.int 3)) aNil)))) (eC (.int 1))))
      (sSeq (sSet 7 (eFn m_L_draw (aCons (eVar 3) (aCons (eC (.int 6)) (aCons (eBin D.add (eCall gLen (aCons (eRd 6) aNil)) (eC (.int 1))) aNil)))))
      (sSeq (sSet 5 (eBin D.add (eRd 5) (eSl (eRd 6) oNo (oI (eVar 7)))))
      (sSet 6 (eBin D.add (eSl (eRd 6) (oI (eVar 7)) oNo) (eSl (eRd 6) oNo (oI (eVar 7)))))))
      sNil) [some (.sh (scr ns)), some (.sh (.int a)), some (.sh (.int m)), some (.sh (.int c)), some (.sh (.int z)), some (.sh (intL xs)), some (.sh (intL ws)), none]
      = .nx [some (.sh (scr ns)), some (.sh (.int a)), some (.sh (.int m)), some (.sh (.int c)), some (.sh (.int z)), some (.sh (intL hs)), some (.sh (intL ls)), x] := by
    by_cases g : d5 = 1
    · refine ⟨xs ++ ws.take d6.toNat, ws.drop d6.toNat ++ ws.take d6.toNat, some (.sh (.int d6)), cx.app (cw.take _), (cw.drop _).app (cw.take _), fun h => ?_, by rw [List.length_append]; omega, by rw [List.length_append, List.length_drop, List.length_take]; omega, ?_⟩
      · have := congrArg List.length h
        rw [List.length_append, List.length_drop, List.length_take, List.length_nil] at this
        omega
      · simp only [a_sIf, a_seq, a_bV, a_bin, a_fn, a_cons, a_nil, a_var, a_c, a_call, List.getElem?_cons_zero, List.getElem?_cons_succ, bind_ok, e5, p_eqi, g, decide_true, opt_some, asB_bl, a_set, a_rd, p_len, p_add, e6, List.set, a_sl, a_oNo, a_oI, et, ef, ea, eb]
    · refine ⟨xs, ws, none, cx, cw, nw, by omega, lw, ?_⟩
      simp only [a_sIf, a_bV, a_bin, a_fn, a_cons, a_nil, a_var, a_c, List.getElem?_cons_zero, List.getElem?_cons_succ, bind_ok, e5, p_eqi, g, decide_false, opt_some, asB_bl, a_snil]
  obtain ⟨hs, ls, x, ch, cl, nl, lh, ll, e7⟩ := step2
  refine ⟨hs, ls, ch, cl, nl, lh, ll, ?_⟩
  simp only [m_L_running, g_L_running, a_runD, a_start, a_seq, a_set, List.map_cons, List.map_nil, List.length_cons, List.length_nil, List.cons_append, List.nil_append, List.replicate, List.set, Nat.reduceAdd, Nat.reduceSub, if_true, a_fn, a_cons, a_nil, a_var, a_c, a_bin, a_call, a_lst, a_rd, List.getElem?_cons_zero, List.getElem?_cons_succ, bind_ok, p_add, p_eqi, opt_some, ec, e0, e36, e2, e1, gInt, l2, ez, ey, ex, el, ew, e7, a_ret, a_tup, out_rs]
/-- the row written out -/
def Wr (h l xs : List Int) : Prop := (∃ m, xs.length = h.length + m * l.length) ∧ ∀ i, i < xs.length → xs.getD i 0 = row h l i
theorem Wr.app {h l xs : List Int} (w : Wr h l xs) : Wr h l (xs ++ l) := by
  obtain ⟨⟨m, e⟩, g⟩ := w
  refine ⟨⟨m + 1, by rw [List.length_append, e, Nat.succ_mul]; omega⟩, fun i hi => ?_⟩
  by_cases c : i < xs.length
  · rw [List.getD_eq_getElem?_getD, List.getElem?_append_left c, ← List.getD_eq_getElem?_getD, g i c]
  · rw [List.length_append] at hi
    rw [List.getD_eq_getElem?_getD, List.getElem?_append_right (by omega), ← List.getD_eq_getElem?_getD]
    have q : i = h.length + ((i - xs.length) + m * l.length) := by omega
    have r : row h l i = row h l (h.length + ((i - xs.length) + m * l.length)) := by rw [← q]
    rw [r, row_hi, Nat.add_mul_mod_self_right, Nat.mod_eq_of_lt (by omega)]
theorem Wr.take {h l xs : List Int} (w : Wr h l xs) {n : Nat} (hn : n ≤ xs.length) : xs.take n = (List.range n).map (row h l) := by
  refine list_ext_getD (by simp; omega) fun i hi => ?_
  rw [List.length_take] at hi
  rw [List.getD_eq_getElem?_getD, List.getElem?_take_of_lt (by omega), ← List.getD_eq_getElem?_getD, w.2 i (by omega), List.getD_eq_getElem?_getD, List.getElem?_map, List.getElem?_range (by omega)]
  rfl
theorem unrolled_loop {h l : List Int} {n : Int} (nl : l ≠ []) (hn : n ≤ 100000) (ll : l.length ≤ 500) : ∀ (k : Nat) (xs : List Int), Wr h l xs → xs.length ≤ 100500 → n < k + xs.length → 0 < k → ∃ ys, Wr h l ys ∧ n ≤ ys.length ∧
    wl (bV (eBin D.lt (eCall gLen (aCons (eRd 2) aNil)) (eRd 1))) (sExt 2 (eBin D.item (eRd 0) (eC (.int 1)))) k
      [some (.sh (run h l)), some (.sh (.int n)), some (.ow (intL xs))] = .nx [some (.sh (run h l)), some (.sh (.int n)), some (.ow (intL ys))]
  | 0, xs, w, h1, h2, h3 => by omega
  | k + 1, xs, w, h1, h2, _ => by
    have n0 : 0 < l.length := List.length_pos_iff.mpr nl
    have ec : bV (eBin D.lt (eCall gLen (aCons (eRd 2) aNil)) (eRd 1)) [some (.sh (run h l)), some (.sh (.int n)), some (.ow (intL xs))] = .ok (decide ((xs.length : Int) < n)) := by
      simp only [a_bV, a_bin, a_call, a_cons, a_nil, a_rd, List.getElem?_cons_zero, List.getElem?_cons_succ, bind_ok, p_len, opt_some, p_cmp, asB_bl]
    by_cases c : (xs.length : Int) < n
    · obtain ⟨ys, b1, b2, b3⟩ := unrolled_loop nl hn ll k (xs ++ l) w.app (by rw [List.length_append]; omega) (by rw [List.length_append]; omega) (by omega)
      refine ⟨ys, b1, b2, ?_⟩
      have e1 : lim ((xs.map D.int).length + (l.map D.int).length) = true := decide_eq_true (by simp; omega)
      have e2 : intL (xs ++ l) = .lst (xs.map D.int ++ l.map D.int) := by simp
      have eb : sExt 2 (eBin D.item (eRd 0) (eC (.int 1))) [some (.sh (run h l)), some (.sh (.int n)), some (.ow (intL xs))] = .nx [some (.sh (run h l)), some (.sh (.int n)), some (.ow (intL (xs ++ l)))] := by
        simp only [a_ext, a_owL, a_bin, a_rd, a_c, List.getElem?_cons_zero, List.getElem?_cons_succ, bind_ok, item1, opt_some, e1, if_true, List.set, e2]
      rw [wl, ec, decide_eq_true c]
      simp only [eb]
      exact b3
    · refine ⟨xs, w, by omega, ?_⟩
      rw [wl, ec, decide_eq_false c]
theorem v_unrolled {h l : List Int} {n : Nat} (nl : l ≠ []) (hn : n ≤ 100000) (lh : h.length ≤ 1000) (ll : l.length ≤ 500) : m_L_unrolled [run h l, .int n] = .ok (intL ((List.range n).map (row h l))) := by
  obtain ⟨ys, b1, b2, b3⟩ := unrolled_loop (n := (n : Int)) nl (by omega) ll 1000000 h ⟨⟨0, by simp⟩, fun i hi => (row_lo hi).symm⟩ (by omega) (by omega) (by omega)
  have e1 : gList [intL h] = some (intL h) := rfl
  have e2 : sliceL (intL ys) none (some (n : Int)) = some (intL (ys.take n)) := to_intL ys (by omega)
  rw [b1.take (by omega)] at e2
  simp only [m_L_unrolled, g_L_unrolled, a_runF, a_start, a_seq, a_setF, a_while, mu_L_unrolled_0, List.map_cons, List.map_nil, List.length_cons, List.length_nil, List.cons_append, List.nil_append, List.replicate, List.set, Nat.reduceAdd, Nat.reduceSub, if_true, a_call, a_cons, a_nil, a_bin, a_rd, a_c, a_var, List.getElem?_cons_zero, List.getElem?_cons_succ, bind_ok, item0, opt_some, e1, b3, a_retF, a_slL, a_oNo, a_oI, e2, outF_ro]
end DL

namespace DL
open PySem PySem.Spec PyProof.Rows L2
open R

theorem getD_wr (f : Nat → Int) {n i : Nat} (h : i < n) : ((List.range n).map f).getD i 0 = f i := by
  rw [List.getD_eq_getElem?_getD, List.getElem?_map, List.getElem?_range h]
  rfl
/-- one choice of a row is another one -/
theorem row_put {h l : List Int} {a : Nat} {x : Int} (nl : l ≠ []) (ha : a < h.length + 2 * l.length) (hx : x ≠ row h l a) :
    Fst (row h l) (row (((List.range (h.length + 2 * l.length)).map (row h l)).set a x) l) (some a) := by
  have n0 : 0 < l.length := List.length_pos_iff.mpr nl
  have ln : (((List.range (h.length + 2 * l.length)).map (row h l)).set a x).length = h.length + 2 * l.length := by simp
  refine ⟨fun e => hx ?_, fun u hu => ?_⟩
  · rw [row_lo (h := ((List.range (h.length + 2 * l.length)).map (row h l)).set a x) (by rw [ln]; exact ha)] at e
    rw [e, List.getD_eq_getElem?_getD, List.getElem?_set_self (by simp; exact ha)]
    rfl
  · rw [row_lo (h := ((List.range (h.length + 2 * l.length)).map (row h l)).set a x) (by rw [ln]; omega), List.getD_eq_getElem?_getD, List.getElem?_set_ne (by omega), ← List.getD_eq_getElem?_getD, getD_wr _ (by omega)]
theorem Ch.cl {m : Int} {xs : List Int} (h : Ch m xs) (hm : m ≤ 6) : Cl xs := fun x hx => by have := h x hx; omega
theorem cl_row {h l : List Int} (k : Ok h l) (t : Nat) : 0 ≤ row h l t ∧ row h l t ≤ 5 := by
  have n0 : 0 < l.length := List.length_pos_iff.mpr k.ne
  have g : ∀ (xs : List Int) (i : Nat), Cl xs → i < xs.length → 0 ≤ xs.getD i 0 ∧ xs.getD i 0 ≤ 5 := fun xs i c hi => by
    rw [List.getD_eq_getElem?_getD, List.getElem?_eq_getElem hi]
    exact c _ (List.getElem_mem hi)
  unfold row
  split
  · exact g _ _ k.ch (by assumption)
  · exact g _ _ k.cl (Nat.mod_lt _ n0)
theorem v_changed {h l : List Int} (k : Ok h l) (lh : h.length ≤ 164) (ll : l.length ≤ 144) (c : Int) : ∃ (a : Nat) (h' : List Int), Ok h' l ∧ Fst (row h l) (row h' l) (some a) ∧ m_L_changed [run h l, .int c] = .ok (.tup [.int ((a : Int) + 1), run h' l]) := by
  have n0 : 0 < l.length := List.length_pos_iff.mpr k.ne
  have eu := v_unrolled (n := h.length + 2 * l.length) k.ne (by omega) k.hh k.hl (h := h)
  obtain ⟨a, a0, a1, ea⟩ := v_draw c (k := 9) (b := ((h.length + 2 * l.length : Nat) : Int)) (by decide) (by decide) (by omega) (by omega)
  obtain ⟨d, d0, d1, ed⟩ := v_draw c (k := 10) (b := 5) (by decide) (by decide) (by decide) (by decide)
  obtain ⟨a, rfl⟩ : ∃ n : Nat, a = (n : Int) := ⟨a.toNat, by omega⟩
  have al : a < h.length + 2 * l.length := by omega
  obtain ⟨r0, r1⟩ := cl_row k a
  have ex : D.mod (.int (row h l a + 1 + d)) (.int 6) = _ := mod_small (by decide)
  refine ⟨a, ((List.range (h.length + 2 * l.length)).map (row h l)).set a ((row h l a + 1 + d) % 6), ⟨fun y hy => ?_, k.cl, k.ne, by simp; omega, k.hl⟩, row_put k.ne al (by omega), ?_⟩
  · rcases List.mem_or_eq_of_mem_set hy with q | q
    · obtain ⟨t, _, rfl⟩ := List.mem_map.mp q
      exact cl_row k t
    · omega
  · have ei : D.item (intL ((List.range (h.length + 2 * l.length)).map (row h l))) (.int (a : Int)) = some (.int (row h l a)) := by
      rw [item_intL (by omega) (by simp; omega), Int.toNat_natCast, getD_wr _ al]
    have eN : ((h.length : Int) + 2 * (l.length : Int)) = ((h.length + 2 * l.length : Nat) : Int) := by omega
    have el : gLen [intL ((List.range (h.length + 2 * l.length)).map (row h l))] = some (.int ((h.length + 2 * l.length : Nat) : Int)) := by
      rw [p_len]; simp
    have em : D.mul (.int 2) (.int l.length) = _ := mul_small (by decide) (by omega)
    have eg : gList [intL l] = some (intL l) := rfl
    have l2 : lim 2 = true := rfl
    have ix : ixN (((List.range (h.length + 2 * l.length)).map (row h l)).map D.int).length (a : Int) = some a := by
      unfold ixN
      rw [if_pos (by omega), if_pos (by simp; omega), Int.toNat_natCast]
    have es : ∀ y : Int, (D.lst ((((List.range (h.length + 2 * l.length)).map (row h l)).map D.int).set a (.int y))) = intL (((List.range (h.length + 2 * l.length)).map (row h l)).set a y) := fun y => by
      simp [List.map_set]
    simp only [m_L_changed, g_L_changed, a_runD, a_start, a_seq, a_unp, a_gtp, a_gcons, a_gnil, a_nm, Option.bind, a_setF, a_set, a_put, a_owL, a_frz, List.map_cons, List.map_nil, List.length_cons, List.length_nil, List.cons_append, List.nil_append, List.replicate, List.set, Nat.reduceAdd, Nat.reduceSub, if_true, a_fn, a_call, a_cons, a_nil, a_bin, a_rd, a_c, a_var, List.getElem?_cons_zero, List.getElem?_cons_succ, bind_ok, opt_some, p_len, em, p_add, eN, eu, el, ea, ei, ed, ex, ix, es, eg, a_ret, a_tup, l2, out_rs]
theorem zip_loop {d1 d2 d3 : Sl} (f g : Nat → Int) : ∀ (n t : Nat) (x y : Option Sl), ∃ x' y',
    fl (gTp 2 (gsCons (gNm 3) (gsCons (gNm 4) gsNil))) (sIf (bV (eBin D.ne (eBin D.item (eRd 4) (eC (.int 0))) (eBin D.item (eRd 4) (eC (.int 1)))))
      (sRet (eBin D.add (eRd 3) (eC (.int 1)))) sNil) (zipI t (((List.range' t n).map f).map D.int) (((List.range' t n).map g).map D.int)) [some d1, some d2, some d3, x, y]
      = match fd f g t n with
        | some v => .rt (.sh (.int ((v : Int) + 1)))
        | none => .nx [some d1, some d2, some d3, x', y']
  | 0, t, x, y => ⟨x, y, rfl⟩
  | n + 1, t, x, y => by
    obtain ⟨x', y', e⟩ := zip_loop (d1 := d1) (d2 := d2) (d3 := d3) f g n (t + 1) (some (.sh (.int (t : Nat)))) (some (.sh (.tup [.int (f t), .int (g t)])))
    refine ⟨x', y', ?_⟩
    rw [List.range'_succ, List.map_cons, List.map_cons, List.map_cons, List.map_cons, zipI, fl]
    simp only [a_gtp, a_gcons, a_gnil, a_nm, Option.bind, List.length_cons, List.length_nil, Nat.reduceAdd, if_true, List.set, a_sIf, a_bV, a_bin, a_rd, a_c, List.getElem?_cons_zero, List.getElem?_cons_succ, bind_ok, opt_some, item0, item1, p_nei, asB_bl]
    by_cases z : f t = g t
    · rw [decide_eq_true z]
      rw [z] at e
      simp only [Bool.not_true, a_snil, fd, z, if_true]
      exact e
    · rw [decide_eq_false z]
      simp only [Bool.not_false, a_ret, a_bin, a_rd, a_c, List.getElem?_cons_zero, List.getElem?_cons_succ, bind_ok, opt_some, p_add, fd, z, if_false]
theorem v_apart {h1 l1 h2 l2 : List Int} (k1 : Ok h1 l1) (k2 : Ok h2 l2) (b1 : l1.length ≤ 144) (b2 : l2.length ≤ 144) : ∃ o, Fst (row h1 l1) (row h2 l2) o ∧ m_L_apart [run h1 l1, run h2 l2] = .ok (due o) := by
  refine ⟨_, fst_fd k1.ne k2.ne, ?_⟩
  have lm : l1.length * l2.length ≤ 144 * 144 := Nat.mul_le_mul b1 b2
  have hh1 := k1.hh
  have hh2 := k2.hh
  generalize eN : max h1.length h2.length + l1.length * l2.length = N
  have em : D.mul (.int l1.length) (.int l2.length) = _ := mul_small (by omega) (by omega)
  have eM : gMax2 [.int (h1.length : Int), .int (h2.length : Int)] = some (.int ((max h1.length h2.length : Nat) : Int)) := by
    show some (D.int (if (h2.length : Int) > h1.length then _ else _)) = _
    congr 2
    split <;> omega
  have eS : ((max h1.length h2.length : Nat) : Int) + (l1.length : Int) * (l2.length : Int) = (N : Int) := by rw [← eN]; push_cast; rfl
  have u1 := v_unrolled (n := N) k1.ne (by omega) k1.hh k1.hl
  have u2 := v_unrolled (n := N) k2.ne (by omega) k2.hh k2.hl
  obtain ⟨x', y', lp⟩ := zip_loop (d1 := .sh (run h1 l1)) (d2 := .sh (run h2 l2)) (d3 := .sh (.int N)) (row h1 l1) (row h2 l2) N 0 none none
  rw [← List.range_eq_range'] at lp
  have el : (((List.range N).map (row h1 l1)).map D.int).length = (((List.range N).map (row h2 l2)).map D.int).length := by simp
  simp only [m_L_apart, g_L_apart, a_runD, a_start, a_seq, a_set, a_for, iEZ, List.map_cons, List.map_nil, List.length_cons, List.length_nil, List.cons_append, List.nil_append, List.replicate, List.set, Nat.reduceAdd, Nat.reduceSub, if_true, a_fn, a_call, a_cons, a_nil, a_bin, a_rd, a_c, a_var, List.getElem?_cons_zero, List.getElem?_cons_succ, bind_ok, opt_some, item0, item1, p_len, em, eM, p_add, eS, u1, u2, el, lp]
  cases fd (row h1 l1) (row h2 l2) 0 N with
  | none => rfl
  | some v => rfl
end DL

namespace DL
open PySem PySem.Spec PyProof.Rows L2
open R

theorem strOk_of (s : String) : PyData.strOk (Str.ofString s) = true := by
  rw [PySem.Str.ofString_eq_toList]
  unfold PyData.strOk
  simp
  intro c _
  rcases c.valid with h | h
  · exact Nat.lt_trans h (by decide)
  · exact h.2
theorem shaped_of (s : String) : SeqAt.shaped (.str (Str.ofString s)) = true := by
  simp [SeqAt.shaped, PyData.canLay0, PyData.depth, strOk_of]
/-- a lap that stands in the head as well -/
theorem row_turn (h : List Int) : ∀ (n : Nat) (a b : List Int), a.length = n → ∀ t, row (h ++ a) (b ++ a) t = row h (a ++ b) t
  | 0, a, b, e, t => by
    obtain rfl := List.length_eq_zero_iff.mp e
    simp
  | n + 1, a, b, e, t => by
    rcases List.eq_nil_or_concat a with q | ⟨a1, x, q⟩
    · subst q; simp at e
    · rw [List.concat_eq_append] at q
      subst q
      have r := row_turn h n a1 (x :: b) (by simp at e; omega) t
      rw [← List.append_assoc, ← List.append_assoc, row_rot, ← List.cons_append, r]
      simp
theorem row_turned (h l : List Int) (c : Nat) (t : Nat) : row (h ++ (List.replicate 2 l).flatten ++ l.take c) (l.drop c ++ l.take c) t = row h l t := by
  rw [row_turn _ _ _ _ rfl, List.take_append_drop]
  have e : (List.replicate 2 l).flatten = l ++ l := by simp [List.replicate]
  rw [e, ← List.append_assoc]
  have r := row_turn (h ++ l) _ l [] rfl t
  have r' := row_turn h _ l [] rfl t
  rw [List.nil_append, List.append_nil] at r r'
  rw [r, r']
theorem repr_due (o : Option Nat) (h : ∀ v, o = some v → v < 1000000) : ∃ s : Str, gRepr [due o] = some (.str s) ∧ D.ne (.str s) (.str s) = some (.bl false) := by
  cases o with
  | none =>
    refine ⟨"None", rfl, ?_⟩
    have q := shaped_of "None"
    rw [ne_str _ _ q q, decide_eq_true rfl]
    rfl
  | some v =>
    have hv := h v rfl
    refine ⟨Str.ofString (toString ((v : Int) + 1)), ?_, ?_⟩
    · show (if ((v : Int) + 1).natAbs.log2 < 1920 then _ else none) = _
      have := log2_small (n := ((v : Int) + 1).natAbs) (k := 30) (by omega) (by omega)
      rw [if_pos (by omega)]
    · have q := shaped_of (toString ((v : Int) + 1))
      rw [ne_str _ _ q q, decide_eq_true rfl]
      rfl
/-- what the law asks of two rows -/
structure Asked (x : D) : Prop where
  is : ∃ h1 l1 h2 l2 o, x = .tup [run h1 l1, run h2 l2, due o] ∧ Ok h1 l1 ∧ Ok h2 l2 ∧ Fst (row h1 l1) (row h2 l2) o
theorem fst_small {h1 l1 h2 l2 : List Int} (k1 : Ok h1 l1) (k2 : Ok h2 l2) {o : Option Nat} (ho : Fst (row h1 l1) (row h2 l2) o) : ∀ v, o = some v → v < 1000000 := fun v e => by
  have q := ho.uniq (fst_fd k1.ne k2.ne)
  rw [e] at q
  have q := fd_some q.symm
  have := k1.hh
  have := k2.hh
  have : l1.length * l2.length ≤ 500 * 500 := Nat.mul_le_mul k1.hl k2.hl
  omega
theorem law_loop {c0 c1 c2 c3 c4 c5 c6 c7 c8 : Option Sl} : ∀ (xs : List D) (x y z : Option Sl), (∀ d ∈ xs, Asked d) → ∃ x' y' z',
    fl (gTp 3 (gsCons (gNm 9) (gsCons (gNm 10) (gsCons (gNm 11) gsNil))))
    (sIf (bOr (bV (eBin D.ne (eCall gRepr (aCons (eFn m_first_apart (aCons (eVar 9) (aCons (eVar 10) aNil))) aNil)) (eCall gRepr (aCons (eRd 11) aNil)))) (bV (eBin D.ne (eCall gRepr (aCons (eFn m_first_apart (aCons (eVar 10) (aCons (eVar 9) aNil))) aNil)) (eCall gRepr (aCons (eRd 11) aNil)))))
    (sRet (eC (.bl false)))
    sNil) xs [c0, c1, c2, c3, c4, c5, c6, c7, c8, x, y, z] = .nx [c0, c1, c2, c3, c4, c5, c6, c7, c8, x', y', z']
  | [], x, y, z, _ => ⟨x, y, z, by rfl⟩
  | d :: ds, x, y, z, hd => by
    obtain ⟨h1, l1, h2, l2, o, rfl, k1, k2, ho⟩ := (hd d (List.mem_cons_self ..)).is
    obtain ⟨x', y', z', e⟩ := law_loop (c0 := c0) (c1 := c1) (c2 := c2) (c3 := c3) (c4 := c4) (c5 := c5) (c6 := c6) (c7 := c7) (c8 := c8) ds (some (.sh (run h1 l1))) (some (.sh (run h2 l2))) (some (.sh (due o))) fun d h => hd d (List.mem_cons_of_mem _ h)
    refine ⟨x', y', z', ?_⟩
    obtain ⟨s, es, en⟩ := repr_due o (fst_small k1 k2 ho)
    have e1 := v_first_apart k1 k2 ho
    have e2 := v_first_apart k2 k1 ho.symm
    rw [fl]
    simp only [a_gtp, a_gcons, a_gnil, a_nm, Option.bind, List.length_cons, List.length_nil, Nat.reduceAdd, if_true, List.set, a_sIf, a_bOr, a_bV, a_bin, a_call, a_fn, a_cons, a_nil, a_var, a_rd, List.getElem?_cons_zero, List.getElem?_cons_succ, bind_ok, opt_some, e1, e2, es, en, asB_bl, Bool.false_eq_true, if_false, a_snil]
    exact e
end DL

namespace DL
open PySem PySem.Spec PyProof.Rows L2
open R

theorem law_true (ns : List Int) (hn : ns.length ≤ 63) : m_law [scr ns] = .ok (.bl true) := by
  obtain ⟨c, ec⟩ := v_cell ns (k := 0) (by decide)
  obtain ⟨d0, p0, q0, e0⟩ := v_draw c (k := 0) (b := 6) (by decide) (by decide) (by decide) (by decide)
  obtain ⟨d1, p1, q1, e1⟩ := v_draw c (k := 1) (b := 3) (by decide) (by decide) (by decide) (by decide)
  obtain ⟨h1, l1, ch1, cl1, nl1, bh1, bl1, er1⟩ := v_running ns (a := 1) (m := 1 + d0) (by decide) (by omega) (by omega)
  obtain ⟨h2, l2, ch2, cl2, nl2, bh2, bl2, er2⟩ := v_running ns (a := 9) (m := 1 + d1) (by decide) (by omega) (by omega)
  have k1 : Ok h1 l1 := ⟨ch1.cl (by omega), cl1.cl (by omega), nl1, by omega, by omega⟩
  have k2 : Ok h2 l2 := ⟨ch2.cl (by omega), cl2.cl (by omega), nl2, by omega, by omega⟩
  obtain ⟨d2, p2, q2, e2⟩ := v_draw c (k := 2) (b := (l1.length : Int) + 1) (by decide) (by decide) (by omega) (by omega)
  have f1 := List.length_flatten (L := List.replicate 2 l1)
  have fl2 : (List.replicate 2 l1).flatten.length = 2 * l1.length := flat_len l1 2
  have lt : (l1.take d2.toNat).length ≤ 144 := by rw [List.length_take]; omega
  have ld : (l1.drop d2.toNat).length ≤ 144 := by rw [List.length_drop]; omega
  have n1 : 0 < l1.length := List.length_pos_iff.mpr nl1
  have k3 : Ok (h1 ++ (List.replicate 2 l1).flatten ++ l1.take d2.toNat) (l1.drop d2.toNat ++ l1.take d2.toNat) :=
    ⟨((ch1.app (cl1.rep 2)).app (cl1.take _)).cl (by omega), ((cl1.drop _).app (cl1.take _)).cl (by omega), fun e => by
      have := congrArg List.length e
      rw [List.length_append, List.length_drop, List.length_take, List.length_nil] at this
      omega, by rw [List.length_append, List.length_append, fl2]; omega, by rw [List.length_append]; omega⟩
  obtain ⟨a, h4, k4, fa, ech⟩ := v_changed k1 bh1 bl1 c
  obtain ⟨o1, fo1, ea1⟩ := v_apart k1 k2 bl1 bl2
  obtain ⟨o2, fo2, ea2⟩ := v_apart k2 k4 bl2 bl1
  have em := mul_intL l1 2 (by decide) (by omega)
  rw [show ((2 : Nat) : Int) = 2 from rfl] at em
  have eadd1 := add_intL h1 (List.replicate 2 l1).flatten (by omega)
  have et := to_intL l1 p2
  have ef := from_intL l1 p2
  have eadd2 := add_intL (h1 ++ (List.replicate 2 l1).flatten) (l1.take d2.toNat) (by rw [List.length_append]; omega)
  have eadd3 := add_intL (l1.drop d2.toNat) (l1.take d2.toNat) (by omega)
  have lm : ∀ n, n ≤ 1000000 → lim n = true := fun n h => decide_eq_true h
  have lm2 := lm 2 (by decide)
  have lm3 := lm 3 (by decide)
  have esl : ∀ a b c d : D, D.slice (.lst [a, b, c, d]) none (some 1) = some (.lst [a]) := fun _ _ _ _ => rfl
  have ead : ∀ a b c d : D, D.add (.lst [a, b, c, d]) (.lst [a]) = some (.lst [a, b, c, d, a]) := fun _ _ _ _ => rfl
  have as1 : Asked (.tup [run h1 l1, run h2 l2, due o1]) := ⟨_, _, _, _, _, rfl, k1, k2, fo1⟩
  have as2 : Asked (.tup [run h1 l1, run (h1 ++ (List.replicate 2 l1).flatten ++ l1.take d2.toNat) (l1.drop d2.toNat ++ l1.take d2.toNat), due none]) := ⟨_, _, _, _, _, rfl, k1, k3, fun t => (row_turned h1 l1 _ t).symm⟩
  have as3 : Asked (.tup [run h1 l1, run h4 l1, due (some a)]) := ⟨_, _, _, _, _, rfl, k1, k4, fa⟩
  have as4 : Asked (.tup [run h2 l2, run h4 l1, due o2]) := ⟨_, _, _, _, _, rfl, k2, k4, fo2⟩
  have dn : due none = D.non := rfl
  have ds : due (some a) = D.int ((a : Int) + 1) := rfl
  rw [dn] at as2
  rw [ds] at as3
  have lp := fun c0 c1 c2 c3 c4 c5 c6 c7 c8 => law_loop (c0 := c0) (c1 := c1) (c2 := c2) (c3 := c3) (c4 := c4) (c5 := c5) (c6 := c6) (c7 := c7) (c8 := c8)
    [.tup [run h1 l1, run h2 l2, due o1], .tup [run h1 l1, run (h1 ++ (List.replicate 2 l1).flatten ++ l1.take d2.toNat) (l1.drop d2.toNat ++ l1.take d2.toNat), .non], .tup [run h1 l1, run h4 l1, .int ((a : Int) + 1)], .tup [run h2 l2, run h4 l1, due o2], .tup [run h1 l1, run h2 l2, due o1]] none none none
    fun d hd => by
      simp only [List.mem_cons, List.not_mem_nil, or_false] at hd
      rcases hd with h | h | h | h | h <;> rw [h] <;> assumption
  obtain ⟨x', y', z', lp⟩ := lp (some (.sh (scr ns))) (some (.sh (.int c))) (some (.sh (run h1 l1))) (some (.sh (run h2 l2))) (some (.sh (.int d2))) (some (.sh (run (h1 ++ (List.replicate 2 l1).flatten ++ l1.take d2.toNat) (l1.drop d2.toNat ++ l1.take d2.toNat)))) (some (.sh (.int ((a : Int) + 1)))) (some (.sh (run h4 l1))) (some (.ow (.lst [.tup [run h1 l1, run h2 l2, due o1], .tup [run h1 l1, run (h1 ++ (List.replicate 2 l1).flatten ++ l1.take d2.toNat) (l1.drop d2.toNat ++ l1.take d2.toNat), .non], .tup [run h1 l1, run h4 l1, .int ((a : Int) + 1)], .tup [run h2 l2, run h4 l1, due o2]])))
  generalize hM : (List.replicate 2 l1).flatten = M at *
  simp only [m_law, g_law, a_runD, a_start, a_seq, a_set, a_setF, a_unp, a_gtp, a_gcons, a_gnil, a_nm, Option.bind, a_app, a_owL, a_for, a_iL, List.map_cons, List.map_nil, List.length_cons, List.length_nil, List.cons_append, List.nil_append, List.replicate, List.set, Nat.reduceAdd, Nat.reduceSub, if_true, a_fn, a_call, a_cons, a_nil, a_bin, a_rd, a_c, a_var, a_tup, a_lst, a_sl, a_oNo, a_oI, List.getElem?_cons_zero, List.getElem?_cons_succ, bind_ok, opt_some, item0, item1, p_len, p_add, ec, e0, e1, er1, er2, e2, em, et, ef, eadd1, eadd2, eadd3, lm2, lm3, lm 4 (by decide), lm 1 (by decide), ech, ea1, ea2, esl, ead, lp, a_ret, out_rs]

end DL

namespace DL
open PySem PySem.Spec PyProof.Rows L2
theorem all_mk {P : Program} {w : World} {K : PySem.W.Frag} {h : Heap} {mg : Str → Option Value} {fa : Addr} {t_MOST_CLAIMANTS : Tok} {C_NoRunning : Addr} {f_is_whole : Addr} {od_is_whole an_is_whole : Option Addr} {sl_is_whole : Array (Option Value)} {oc_is_whole kV_is_whole dc_is_whole pm_is_whole cd_is_whole ct_is_whole : Value} {f_is_within : Addr} {od_is_within an_is_within : Option Addr} {sl_is_within : Array (Option Value)} {oc_is_within kV_is_within dc_is_within pm_is_within cd_is_within ct_is_within : Value} {f_are_claimants : Addr} {od_are_claimants an_are_claimants : Option Addr} {sl_are_claimants : Array (Option Value)} {oc_are_claimants kV_are_claimants dc_are_claimants pm_are_claimants cd_are_claimants ct_are_claimants : Value} {f_is_running : Addr} {od_is_running an_is_running : Option Addr} {sl_is_running : Array (Option Value)} {oc_is_running kV_is_running dc_is_running pm_is_running cd_is_running ct_is_running : Value} {f_check_running : Addr} {od_check_running an_check_running : Option Addr} {sl_check_running : Array (Option Value)} {oc_check_running kV_check_running dc_check_running pm_check_running cd_check_running ct_check_running : Value} {f_choice_in_row : Addr} {od_choice_in_row an_choice_in_row : Option Addr} {sl_choice_in_row : Array (Option Value)} {oc_choice_in_row kV_choice_in_row dc_choice_in_row pm_choice_in_row cd_choice_in_row ct_choice_in_row : Value} {f_root_of : Addr} {od_root_of an_root_of : Option Addr} {sl_root_of : Array (Option Value)} {oc_root_of kV_root_of dc_root_of pm_root_of cd_root_of ct_root_of : Value} {f_least_of : Addr} {od_least_of an_least_of : Option Addr} {sl_least_of : Array (Option Value)} {oc_least_of kV_least_of dc_least_of pm_least_of cd_least_of ct_least_of : Value} {f_first_apart : Addr} {od_first_apart an_first_apart : Option Addr} {sl_first_apart : Array (Option Value)} {oc_first_apart kV_first_apart dc_first_apart pm_first_apart cd_first_apart ct_first_apart : Value} {f_L_cell_at : Addr} {od_L_cell_at an_L_cell_at : Option Addr} {sl_L_cell_at : Array (Option Value)} {oc_L_cell_at kV_L_cell_at dc_L_cell_at pm_L_cell_at cd_L_cell_at ct_L_cell_at : Value} {f_L_draw : Addr} {od_L_draw an_L_draw : Option Addr} {sl_L_draw : Array (Option Value)} {oc_L_draw kV_L_draw dc_L_draw pm_L_draw cd_L_draw ct_L_draw : Value} {f_L_choices : Addr} {od_L_choices an_L_choices : Option Addr} {sl_L_choices : Array (Option Value)} {oc_L_choices kV_L_choices dc_L_choices pm_L_choices cd_L_choices ct_L_choices : Value} {f_L_running : Addr} {od_L_running an_L_running : Option Addr} {sl_L_running : Array (Option Value)} {oc_L_running kV_L_running dc_L_running pm_L_running cd_L_running ct_L_running : Value} {f_L_unrolled : Addr} {od_L_unrolled an_L_unrolled : Option Addr} {sl_L_unrolled : Array (Option Value)} {oc_L_unrolled kV_L_unrolled dc_L_unrolled pm_L_unrolled cd_L_unrolled ct_L_unrolled : Value} {f_L_changed : Addr} {od_L_changed an_L_changed : Option Addr} {sl_L_changed : Array (Option Value)} {oc_L_changed kV_L_changed dc_L_changed pm_L_changed cd_L_changed ct_L_changed : Value} {f_L_apart : Addr} {od_L_apart an_L_apart : Option Addr} {sl_L_apart : Array (Option Value)} {oc_L_apart kV_L_apart dc_L_apart pm_L_apart cd_L_apart ct_L_apart : Value} {f_law : Addr} {od_law an_law : Option Addr} {sl_law : Array (Option Value)} {oc_law kV_law dc_law pm_law cd_law ct_law : Value} (X : K.In h) (G : h.Ns mainGlobals mg) (hfa : mg "law" = some (.ref fa))
    (z_b_all : PySem.W.nsIn K mainGlobals "all" = some none)
    (z_b_bool : PySem.W.nsIn K mainGlobals "bool" = some none)
    (z_b_enumerate : PySem.W.nsIn K mainGlobals "enumerate" = some none)
    (z_b_int : PySem.W.nsIn K mainGlobals "int" = some none)
    (z_b_isinstance : PySem.W.nsIn K mainGlobals "isinstance" = some none)
    (z_b_len : PySem.W.nsIn K mainGlobals "len" = some none)
    (z_b_list : PySem.W.nsIn K mainGlobals "list" = some none)
    (z_b_max : PySem.W.nsIn K mainGlobals "max" = some none)
    (z_b_range : PySem.W.nsIn K mainGlobals "range" = some none)
    (z_b_repr : PySem.W.nsIn K mainGlobals "repr" = some none)
    (z_b_tuple : PySem.W.nsIn K mainGlobals "tuple" = some none)
    (z_b_zip : PySem.W.nsIn K mainGlobals "zip" = some none)
    (z_c_MOST_CLAIMANTS : PySem.W.nsIn K mainGlobals "MOST_CLAIMANTS" = some (some (.int 6 t_MOST_CLAIMANTS)))
    (z_x_NoRunning_a : PySem.W.nsIn K mainGlobals "NoRunning" = some (some (.ref C_NoRunning)))
    (z_x_NoRunning_k : PySem.W.keepIn K (.ref C_NoRunning) = true)
    (z_x_NoRunning_q : PySem.W.excIn K C_NoRunning [.type "ValueError", .type "Exception", .type "BaseException", .type "object"] "ValueError.__new__" = true)
    (z_x_NoRunning_s : PySem.W.subIn K (.ref C_NoRunning) (.type "BaseException") = some true)
    (z_x_NoRunning_t : PySem.W.typeIn K (.ref C_NoRunning) = some (.type "type"))
    (a_is_whole : PySem.W.nsIn K mainGlobals "is_whole" = some (some (.ref f_is_whole)))
    (l_is_whole : K.lookup f_is_whole = some ⟨oc_is_whole, od_is_whole, .func (PySem.W.fnOf "is_whole" "is_whole" (defArgs s_is_whole) (defBody s_is_whole) (defScope s_is_whole) .none kV_is_whole dc_is_whole pm_is_whole an_is_whole cd_is_whole ct_is_whole), sl_is_whole⟩)
    (c_is_whole : PySem.W.codeIn K cd_is_whole "is_whole" = true)
    (k_is_whole : PySem.W.keepIn K (.ref f_is_whole) = true)
    (a_is_within : PySem.W.nsIn K mainGlobals "is_within" = some (some (.ref f_is_within)))
    (l_is_within : K.lookup f_is_within = some ⟨oc_is_within, od_is_within, .func (PySem.W.fnOf "is_within" "is_within" (defArgs s_is_within) (defBody s_is_within) (defScope s_is_within) .none kV_is_within dc_is_within pm_is_within an_is_within cd_is_within ct_is_within), sl_is_within⟩)
    (c_is_within : PySem.W.codeIn K cd_is_within "is_within" = true)
    (k_is_within : PySem.W.keepIn K (.ref f_is_within) = true)
    (a_are_claimants : PySem.W.nsIn K mainGlobals "are_claimants" = some (some (.ref f_are_claimants)))
    (l_are_claimants : K.lookup f_are_claimants = some ⟨oc_are_claimants, od_are_claimants, .func (PySem.W.fnOf "are_claimants" "are_claimants" (defArgs s_are_claimants) (defBody s_are_claimants) (defScope s_are_claimants) .none kV_are_claimants dc_are_claimants pm_are_claimants an_are_claimants cd_are_claimants ct_are_claimants), sl_are_claimants⟩)
    (c_are_claimants : PySem.W.codeIn K cd_are_claimants "are_claimants" = true)
    (k_are_claimants : PySem.W.keepIn K (.ref f_are_claimants) = true)
    (a_is_running : PySem.W.nsIn K mainGlobals "is_running" = some (some (.ref f_is_running)))
    (l_is_running : K.lookup f_is_running = some ⟨oc_is_running, od_is_running, .func (PySem.W.fnOf "is_running" "is_running" (defArgs s_is_running) (defBody s_is_running) (defScope s_is_running) .none kV_is_running dc_is_running pm_is_running an_is_running cd_is_running ct_is_running), sl_is_running⟩)
    (c_is_running : PySem.W.codeIn K cd_is_running "is_running" = true)
    (k_is_running : PySem.W.keepIn K (.ref f_is_running) = true)
    (a_check_running : PySem.W.nsIn K mainGlobals "check_running" = some (some (.ref f_check_running)))
    (l_check_running : K.lookup f_check_running = some ⟨oc_check_running, od_check_running, .func (PySem.W.fnOf "check_running" "check_running" (defArgs s_check_running) (defBody s_check_running) (defScope s_check_running) .none kV_check_running dc_check_running pm_check_running an_check_running cd_check_running ct_check_running), sl_check_running⟩)
    (c_check_running : PySem.W.codeIn K cd_check_running "check_running" = true)
    (k_check_running : PySem.W.keepIn K (.ref f_check_running) = true)
    (a_choice_in_row : PySem.W.nsIn K mainGlobals "choice_in_row" = some (some (.ref f_choice_in_row)))
    (l_choice_in_row : K.lookup f_choice_in_row = some ⟨oc_choice_in_row, od_choice_in_row, .func (PySem.W.fnOf "choice_in_row" "choice_in_row" (defArgs s_choice_in_row) (defBody s_choice_in_row) (defScope s_choice_in_row) .none kV_choice_in_row dc_choice_in_row pm_choice_in_row an_choice_in_row cd_choice_in_row ct_choice_in_row), sl_choice_in_row⟩)
    (c_choice_in_row : PySem.W.codeIn K cd_choice_in_row "choice_in_row" = true)
    (k_choice_in_row : PySem.W.keepIn K (.ref f_choice_in_row) = true)
    (a_root_of : PySem.W.nsIn K mainGlobals "root_of" = some (some (.ref f_root_of)))
    (l_root_of : K.lookup f_root_of = some ⟨oc_root_of, od_root_of, .func (PySem.W.fnOf "root_of" "root_of" (defArgs s_root_of) (defBody s_root_of) (defScope s_root_of) .none kV_root_of dc_root_of pm_root_of an_root_of cd_root_of ct_root_of), sl_root_of⟩)
    (c_root_of : PySem.W.codeIn K cd_root_of "root_of" = true)
    (k_root_of : PySem.W.keepIn K (.ref f_root_of) = true)
    (a_least_of : PySem.W.nsIn K mainGlobals "least_of" = some (some (.ref f_least_of)))
    (l_least_of : K.lookup f_least_of = some ⟨oc_least_of, od_least_of, .func (PySem.W.fnOf "least_of" "least_of" (defArgs s_least_of) (defBody s_least_of) (defScope s_least_of) .none kV_least_of dc_least_of pm_least_of an_least_of cd_least_of ct_least_of), sl_least_of⟩)
    (c_least_of : PySem.W.codeIn K cd_least_of "least_of" = true)
    (k_least_of : PySem.W.keepIn K (.ref f_least_of) = true)
    (a_first_apart : PySem.W.nsIn K mainGlobals "first_apart" = some (some (.ref f_first_apart)))
    (l_first_apart : K.lookup f_first_apart = some ⟨oc_first_apart, od_first_apart, .func (PySem.W.fnOf "first_apart" "first_apart" (defArgs s_first_apart) (defBody s_first_apart) (defScope s_first_apart) .none kV_first_apart dc_first_apart pm_first_apart an_first_apart cd_first_apart ct_first_apart), sl_first_apart⟩)
    (c_first_apart : PySem.W.codeIn K cd_first_apart "first_apart" = true)
    (k_first_apart : PySem.W.keepIn K (.ref f_first_apart) = true)
    (a_L_cell_at : PySem.W.nsIn K mainGlobals "_law_cell_at" = some (some (.ref f_L_cell_at)))
    (l_L_cell_at : K.lookup f_L_cell_at = some ⟨oc_L_cell_at, od_L_cell_at, .func (PySem.W.fnOf "_law_cell_at" "_law_cell_at" (defArgs s_L_cell_at) (defBody s_L_cell_at) (defScope s_L_cell_at) .none kV_L_cell_at dc_L_cell_at pm_L_cell_at an_L_cell_at cd_L_cell_at ct_L_cell_at), sl_L_cell_at⟩)
    (c_L_cell_at : PySem.W.codeIn K cd_L_cell_at "_law_cell_at" = true)
    (k_L_cell_at : PySem.W.keepIn K (.ref f_L_cell_at) = true)
    (a_L_draw : PySem.W.nsIn K mainGlobals "_law_draw" = some (some (.ref f_L_draw)))
    (l_L_draw : K.lookup f_L_draw = some ⟨oc_L_draw, od_L_draw, .func (PySem.W.fnOf "_law_draw" "_law_draw" (defArgs s_L_draw) (defBody s_L_draw) (defScope s_L_draw) .none kV_L_draw dc_L_draw pm_L_draw an_L_draw cd_L_draw ct_L_draw), sl_L_draw⟩)
    (c_L_draw : PySem.W.codeIn K cd_L_draw "_law_draw" = true)
    (k_L_draw : PySem.W.keepIn K (.ref f_L_draw) = true)
    (a_L_choices : PySem.W.nsIn K mainGlobals "_law_choices" = some (some (.ref f_L_choices)))
    (l_L_choices : K.lookup f_L_choices = some ⟨oc_L_choices, od_L_choices, .func (PySem.W.fnOf "_law_choices" "_law_choices" (defArgs s_L_choices) (defBody s_L_choices) (defScope s_L_choices) .none kV_L_choices dc_L_choices pm_L_choices an_L_choices cd_L_choices ct_L_choices), sl_L_choices⟩)
    (c_L_choices : PySem.W.codeIn K cd_L_choices "_law_choices" = true)
    (k_L_choices : PySem.W.keepIn K (.ref f_L_choices) = true)
    (a_L_running : PySem.W.nsIn K mainGlobals "_law_running" = some (some (.ref f_L_running)))
    (l_L_running : K.lookup f_L_running = some ⟨oc_L_running, od_L_running, .func (PySem.W.fnOf "_law_running" "_law_running" (defArgs s_L_running) (defBody s_L_running) (defScope s_L_running) .none kV_L_running dc_L_running pm_L_running an_L_running cd_L_running ct_L_running), sl_L_running⟩)
    (c_L_running : PySem.W.codeIn K cd_L_running "_law_running" = true)
    (k_L_running : PySem.W.keepIn K (.ref f_L_running) = true)
    (a_L_unrolled : PySem.W.nsIn K mainGlobals "_law_unrolled" = some (some (.ref f_L_unrolled)))
    (l_L_unrolled : K.lookup f_L_unrolled = some ⟨oc_L_unrolled, od_L_unrolled, .func (PySem.W.fnOf "_law_unrolled" "_law_unrolled" (defArgs s_L_unrolled) (defBody s_L_unrolled) (defScope s_L_unrolled) .none kV_L_unrolled dc_L_unrolled pm_L_unrolled an_L_unrolled cd_L_unrolled ct_L_unrolled), sl_L_unrolled⟩)
    (c_L_unrolled : PySem.W.codeIn K cd_L_unrolled "_law_unrolled" = true)
    (k_L_unrolled : PySem.W.keepIn K (.ref f_L_unrolled) = true)
    (a_L_changed : PySem.W.nsIn K mainGlobals "_law_changed" = some (some (.ref f_L_changed)))
    (l_L_changed : K.lookup f_L_changed = some ⟨oc_L_changed, od_L_changed, .func (PySem.W.fnOf "_law_changed" "_law_changed" (defArgs s_L_changed) (defBody s_L_changed) (defScope s_L_changed) .none kV_L_changed dc_L_changed pm_L_changed an_L_changed cd_L_changed ct_L_changed), sl_L_changed⟩)
    (c_L_changed : PySem.W.codeIn K cd_L_changed "_law_changed" = true)
    (k_L_changed : PySem.W.keepIn K (.ref f_L_changed) = true)
    (a_L_apart : PySem.W.nsIn K mainGlobals "_law_apart" = some (some (.ref f_L_apart)))
    (l_L_apart : K.lookup f_L_apart = some ⟨oc_L_apart, od_L_apart, .func (PySem.W.fnOf "_law_apart" "_law_apart" (defArgs s_L_apart) (defBody s_L_apart) (defScope s_L_apart) .none kV_L_apart dc_L_apart pm_L_apart an_L_apart cd_L_apart ct_L_apart), sl_L_apart⟩)
    (c_L_apart : PySem.W.codeIn K cd_L_apart "_law_apart" = true)
    (k_L_apart : PySem.W.keepIn K (.ref f_L_apart) = true)
    (a_law : PySem.W.nsIn K mainGlobals "law" = some (some (.ref f_law)))
    (l_law : K.lookup f_law = some ⟨oc_law, od_law, .func (PySem.W.fnOf "law" "law" (defArgs s_law) (defBody s_law) (defScope s_law) .none kV_law dc_law pm_law an_law cd_law ct_law), sl_law⟩)
    (c_law : PySem.W.codeIn K cd_law "law" = true)
    (k_law : PySem.W.keepIn K (.ref f_law) = true) :
    ∃ fd : FuncData, (∀ (s : Shared) (u : Value), BindsTo s fd ⟨[u], []⟩ [("_law_script", u)]) ∧ ∀ base : Heap, K.In base → base.Ns mainGlobals mg → FnOk P w K mg base (L2.CX P w) 8 fa fd ["_law_script"] (spL K) := by
  have T : Tx K mg := ⟨PySem.W.mg_none_of X G z_b_all, PySem.W.mg_none_of X G z_b_bool, PySem.W.mg_none_of X G z_b_enumerate, PySem.W.mg_none_of X G z_b_int, PySem.W.mg_none_of X G z_b_isinstance, PySem.W.mg_none_of X G z_b_len, PySem.W.mg_none_of X G z_b_list, PySem.W.mg_none_of X G z_b_max, PySem.W.mg_none_of X G z_b_range, PySem.W.mg_none_of X G z_b_repr, PySem.W.mg_none_of X G z_b_tuple, PySem.W.mg_none_of X G z_b_zip, ⟨t_MOST_CLAIMANTS, PySem.W.mg_of X G z_c_MOST_CLAIMANTS⟩, exc_mk X G z_x_NoRunning_a z_x_NoRunning_k z_x_NoRunning_q z_x_NoRunning_s z_x_NoRunning_t⟩
  have F_is_whole := ff_mk (st := s_is_whole) (ps := ["thing"]) X G a_is_whole l_is_whole c_is_whole k_is_whole (fun _ _ _ _ _ _ us hl => match us, hl with | [_], _ => rfl)
  have F_is_within := ff_mk (st := s_is_within) (ps := ["thing", "low", "high"]) X G a_is_within l_is_within c_is_within k_is_within (fun _ _ _ _ _ _ us hl => match us, hl with | [_, _, _], _ => rfl)
  have F_are_claimants := ff_mk (st := s_are_claimants) (ps := ["thing", "many"]) X G a_are_claimants l_are_claimants c_are_claimants k_are_claimants (fun _ _ _ _ _ _ us hl => match us, hl with | [_, _], _ => rfl)
  have F_is_running := ff_mk (st := s_is_running) (ps := ["thing"]) X G a_is_running l_is_running c_is_running k_is_running (fun _ _ _ _ _ _ us hl => match us, hl with | [_], _ => rfl)
  have F_check_running := ff_mk (st := s_check_running) (ps := ["thing"]) X G a_check_running l_check_running c_check_running k_check_running (fun _ _ _ _ _ _ us hl => match us, hl with | [_], _ => rfl)
  have F_choice_in_row := ff_mk (st := s_choice_in_row) (ps := ["running", "turn"]) X G a_choice_in_row l_choice_in_row c_choice_in_row k_choice_in_row (fun _ _ _ _ _ _ us hl => match us, hl with | [_, _], _ => rfl)
  have F_root_of := ff_mk (st := s_root_of) (ps := ["lap"]) X G a_root_of l_root_of c_root_of k_root_of (fun _ _ _ _ _ _ us hl => match us, hl with | [_], _ => rfl)
  have F_least_of := ff_mk (st := s_least_of) (ps := ["running"]) X G a_least_of l_least_of c_least_of k_least_of (fun _ _ _ _ _ _ us hl => match us, hl with | [_], _ => rfl)
  have F_first_apart := ff_mk (st := s_first_apart) (ps := ["one", "other"]) X G a_first_apart l_first_apart c_first_apart k_first_apart (fun _ _ _ _ _ _ us hl => match us, hl with | [_, _], _ => rfl)
  have F_L_cell_at := ff_mk (st := s_L_cell_at) (ps := ["_law_script", "_law_k"]) X G a_L_cell_at l_L_cell_at c_L_cell_at k_L_cell_at (fun _ _ _ _ _ _ us hl => match us, hl with | [_, _], _ => rfl)
  have F_L_draw := ff_mk (st := s_L_draw) (ps := ["_law_cell", "_law_k", "_law_bound"]) X G a_L_draw l_L_draw c_L_draw k_L_draw (fun _ _ _ _ _ _ us hl => match us, hl with | [_, _, _], _ => rfl)
  have F_L_choices := ff_mk (st := s_L_choices) (ps := ["_law_script", "_law_at", "_law_many", "_law_size"]) X G a_L_choices l_L_choices c_L_choices k_L_choices (fun _ _ _ _ _ _ us hl => match us, hl with | [_, _, _, _], _ => rfl)
  have F_L_running := ff_mk (st := s_L_running) (ps := ["_law_script", "_law_at", "_law_many"]) X G a_L_running l_L_running c_L_running k_L_running (fun _ _ _ _ _ _ us hl => match us, hl with | [_, _, _], _ => rfl)
  have F_L_unrolled := ff_mk (st := s_L_unrolled) (ps := ["_law_running_here", "_law_turns"]) X G a_L_unrolled l_L_unrolled c_L_unrolled k_L_unrolled (fun _ _ _ _ _ _ us hl => match us, hl with | [_, _], _ => rfl)
  have F_L_changed := ff_mk (st := s_L_changed) (ps := ["_law_running_here", "_law_cell"]) X G a_L_changed l_L_changed c_L_changed k_L_changed (fun _ _ _ _ _ _ us hl => match us, hl with | [_, _], _ => rfl)
  have F_L_apart := ff_mk (st := s_L_apart) (ps := ["_law_one", "_law_other"]) X G a_L_apart l_L_apart c_L_apart k_L_apart (fun _ _ _ _ _ _ us hl => match us, hl with | [_, _], _ => rfl)
  refine law_mk X G hfa a_law l_law c_law k_law (fun s v => .of_eq rfl) sc_law rfl (fun base f cdv A outer s H E hr => ?_) law_true
  have h_is_whole := ok_is_whole (P := P) (w := w) (base := base) T F_is_whole 
  have h_is_within := ok_is_within (P := P) (w := w) (base := base) T F_is_within h_is_whole
  have h_are_claimants := ok_are_claimants (P := P) (w := w) (base := base) T F_are_claimants h_is_within
  have h_is_running := ok_is_running (P := P) (w := w) (base := base) T F_is_running h_are_claimants
  have h_check_running := ok_check_running (P := P) (w := w) (base := base) T F_check_running h_is_running
  have h_choice_in_row := ok_choice_in_row (P := P) (w := w) (base := base) T F_choice_in_row 
  have h_root_of := ok_root_of (P := P) (w := w) (base := base) T F_root_of 
  have h_least_of := ok_least_of (P := P) (w := w) (base := base) T F_least_of h_check_running h_root_of
  have h_first_apart := ok_first_apart (P := P) (w := w) (base := base) T F_first_apart h_choice_in_row h_least_of
  have h_L_cell_at := ok_L_cell_at (P := P) (w := w) (base := base) T F_L_cell_at 
  have h_L_draw := ok_L_draw (P := P) (w := w) (base := base) T F_L_draw 
  have h_L_choices := ok_L_choices (P := P) (w := w) (base := base) T F_L_choices h_L_cell_at h_L_draw
  have h_L_running := ok_L_running (P := P) (w := w) (base := base) T F_L_running h_L_cell_at h_L_draw h_L_choices
  have h_L_unrolled := ok_L_unrolled (P := P) (w := w) (base := base) T F_L_unrolled 
  have h_L_changed := ok_L_changed (P := P) (w := w) (base := base) T F_L_changed h_L_draw h_L_unrolled
  have h_L_apart := ok_L_apart (P := P) (w := w) (base := base) T F_L_apart h_L_unrolled
  exact ok_law T f cdv A outer s H E hr h_first_apart h_L_cell_at h_L_draw h_L_running h_L_changed h_L_apart
end DL
open PySem PySem.W PyProof.Rows
theorem PySem.Challenge.cw_dueturns_k44_first_apart_holds : PySem.Challenge.rw_dueturns_k44_first_apart.Holds := by
  w_on; o_law; k_head; (case hw => w_witness2)
  k_fill
  refine DL.walkD (l := PySem.Challenge.rw_dueturns_k44_first_apart) (k := 8) (x := "_law_script") rfl rfl ⟨rfl, by decide, by decide⟩ (fun w h Y => PySem.W.kIn_of Y) ?F
  case F =>
    intro w mg fa h KX G hmg
    refine' DL.all_mk KX G hmg ?z_b_all ?z_b_bool ?z_b_enumerate ?z_b_int ?z_b_isinstance ?z_b_len ?z_b_list ?z_b_max ?z_b_range ?z_b_repr ?z_b_tuple ?z_b_zip ?z_c_MOST_CLAIMANTS ?z_x_NoRunning_a ?z_x_NoRunning_k ?z_x_NoRunning_q ?z_x_NoRunning_s ?z_x_NoRunning_t ?a_is_whole ?l_is_whole ?c_is_whole ?k_is_whole ?a_is_within ?l_is_within ?c_is_within ?k_is_within ?a_are_claimants ?l_are_claimants ?c_are_claimants ?k_are_claimants ?a_is_running ?l_is_running ?c_is_running ?k_is_running ?a_check_running ?l_check_running ?c_check_running ?k_check_running ?a_choice_in_row ?l_choice_in_row ?c_choice_in_row ?k_choice_in_row ?a_root_of ?l_root_of ?c_root_of ?k_root_of ?a_least_of ?l_least_of ?c_least_of ?k_least_of ?a_first_apart ?l_first_apart ?c_first_apart ?k_first_apart ?a_L_cell_at ?l_L_cell_at ?c_L_cell_at ?k_L_cell_at ?a_L_draw ?l_L_draw ?c_L_draw ?k_L_draw ?a_L_choices ?l_L_choices ?c_L_choices ?k_L_choices ?a_L_running ?l_L_running ?c_L_running ?k_L_running ?a_L_unrolled ?l_L_unrolled ?c_L_unrolled ?k_L_unrolled ?a_L_changed ?l_L_changed ?c_L_changed ?k_L_changed ?a_L_apart ?l_L_apart ?c_L_apart ?k_L_apart ?a_law ?l_law ?c_law ?k_law
    (case z_b_all => k_is)
    (case z_b_bool => k_is)
    (case z_b_enumerate => k_is)
    (case z_b_int => k_is)
    (case z_b_isinstance => k_is)
    (case z_b_len => k_is)
    (case z_b_list => k_is)
    (case z_b_max => k_is)
    (case z_b_range => k_is)
    (case z_b_repr => k_is)
    (case z_b_tuple => k_is)
    (case z_b_zip => k_is)
    (case z_c_MOST_CLAIMANTS => k_is)
    (case z_x_NoRunning_a => k_is)
    (case z_x_NoRunning_k => k_is)
    (case z_x_NoRunning_q => k_exc)
    (case z_x_NoRunning_s => k_is)
    (case z_x_NoRunning_t => k_is)
    (case a_is_whole => k_is)
    (case l_is_whole => k_is)
    (case c_is_whole => k_is)
    (case k_is_whole => k_is)
    (case a_is_within => k_is)
    (case l_is_within => k_is)
    (case c_is_within => k_is)
    (case k_is_within => k_is)
    (case a_are_claimants => k_is)
    (case l_are_claimants => k_is)
    (case c_are_claimants => k_is)
    (case k_are_claimants => k_is)
    (case a_is_running => k_is)
    (case l_is_running => k_is)
    (case c_is_running => k_is)
    (case k_is_running => k_is)
    (case a_check_running => k_is)
    (case l_check_running => k_is)
    (case c_check_running => k_is)
    (case k_check_running => k_is)
    (case a_choice_in_row => k_is)
    (case l_choice_in_row => k_is)
    (case c_choice_in_row => k_is)
    (case k_choice_in_row => k_is)
    (case a_root_of => k_is)
    (case l_root_of => k_is)
    (case c_root_of => k_is)
    (case k_root_of => k_is)
    (case a_least_of => k_is)
    (case l_least_of => k_is)
    (case c_least_of => k_is)
    (case k_least_of => k_is)
    (case a_first_apart => k_is)
    (case l_first_apart => k_is)
    (case c_first_apart => k_is)
    (case k_first_apart => k_is)
    (case a_L_cell_at => k_is)
    (case l_L_cell_at => k_is)
    (case c_L_cell_at => k_is)
    (case k_L_cell_at => k_is)
    (case a_L_draw => k_is)
    (case l_L_draw => k_is)
    (case c_L_draw => k_is)
    (case k_L_draw => k_is)
    (case a_L_choices => k_is)
    (case l_L_choices => k_is)
    (case c_L_choices => k_is)
    (case k_L_choices => k_is)
    (case a_L_running => k_is)
    (case l_L_running => k_is)
    (case c_L_running => k_is)
    (case k_L_running => k_is)
    (case a_L_unrolled => k_is)
    (case l_L_unrolled => k_is)
    (case c_L_unrolled => k_is)
    (case k_L_unrolled => k_is)
    (case a_L_changed => k_is)
    (case l_L_changed => k_is)
    (case c_L_changed => k_is)
    (case k_L_changed => k_is)
    (case a_L_apart => k_is)
    (case l_L_apart => k_is)
    (case c_L_apart => k_is)
    (case k_L_apart => k_is)
    (case a_law => k_is)
    (case l_law => k_is)
    (case c_law => k_is)
    (case k_law => k_is)

