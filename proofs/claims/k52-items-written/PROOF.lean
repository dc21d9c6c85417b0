import PyProof.Rows.All
import HandS.ForMost
import HandS.ForExc
import HandS.CallSlots
import HandS.IsInst
import HandS.Wide
import HandS.WideBits
import HandS.Zip
import HandS.TupAny
import HandS.TupMul
import HandS.Style
import HandS.Flow
import HandS.Deep
import HandS.FStr
import HandS.StrMore
import HandS.RaiseMore
import HandS.NoneIn
import KE.GoesMore
import HandS.Conv
import PyProof.Rows.ListMulArg
import HandS.ExcIs
import HandS.Text
import PySem.Challenge.RW_glidequeue_k52_items_written
set_option Elab.async false
set_option linter.all false
set_option maxRecDepth 100000
set_option maxHeartbeats 4000000
namespace GB
open PySem PySem.Spec PyProof.Rows L2

/-! ### trees, cells, outcomes -/
inductive T where
  | non | bl (b : Bool) | int (i : Int) | str (s : Str) | tup (xs : List T) | lst (xs : List T) | box (n : Nat)
  deriving Inhabited
inductive Cell where
  | lst (xs : List T)
abbrev IH := List Cell
structure Ex where
  name : String
  args : List (String × T)
inductive Rs (α : Type) where
  | ok (a : α) (h : IH)
  | exc (x : Ex) (h : IH)
  | no
def Rs.bind {α β : Type} (r : Rs α) (f : α → IH → Rs β) : Rs β :=
  match r with
  | .ok a h => f a h
  | .exc x h => .exc x h
  | .no => .no
abbrev Ev := List (Option T)
abbrev SE := Ev → IH → Rs T
abbrev SA := Ev → IH → Rs (List T)
abbrev SB := Ev → IH → Rs Bool

/-! ### how a tree lies in the ground G (what never changes), R: where the boxes lie -/
mutual
inductive Rp (K : PySem.W.Frag) (G : Hp) (R : List Addr) : T → V → Prop
  | non : Rp K G R .non .non
  | bl (b : Bool) : Rp K G R (.bl b) (.bl b)
  | int (i : Int) : Rp K G R (.int i) (.int i)
  | str (s : Str) : Rp K G R (.str s) (.str s)
  | tup {a : Addr} {xs : List V} {ts : List T} : SqT K G a xs → RpL K G R ts xs → Rp K G R (.tup ts) (.ref a)
  | lst {a : Addr} {xs : List V} {ts : List T} : SqL K G a xs → RpL K G R ts xs → Rp K G R (.lst ts) (.ref a)
  | box {a : Addr} {n : Nat} : R[n]? = some a → Rp K G R (.box n) (.ref a)
inductive RpL (K : PySem.W.Frag) (G : Hp) (R : List Addr) : List T → List V → Prop
  | nil : RpL K G R [] []
  | cons {t : T} {v : V} {ts : List T} {vs : List V} : Rp K G R t v → RpL K G R ts vs → RpL K G R (t :: ts) (v :: vs)
end

theorem same_trans {A B C : Hp} (a : Same A B) (b : Same B C) : Same A C := fun x o e => b x o (a x o e)
theorem same_sqT {K : PySem.W.Frag} {G G' : Hp} {a : Addr} {xs : List V} (s : Same G G') (h : SqT K G a xs) : SqT K G' a xs := by
  rcases h with (h | ⟨o, h⟩) | h
  · exact .inl (.inl (s _ _ h))
  · exact .inl (.inr ⟨o, s _ _ h⟩)
  · exact .inr h
theorem same_sqL {K : PySem.W.Frag} {G G' : Hp} {a : Addr} {xs : List V} (s : Same G G') (h : SqL K G a xs) : SqL K G' a xs := by
  rcases h with (h | ⟨o, h⟩) | h
  · exact .inl (.inl (s _ _ h))
  · exact .inl (.inr ⟨o, s _ _ h⟩)
  · exact .inr h
theorem pre_get {R R' : List Addr} (p : R <+: R') {n : Nat} {a : Addr} (h : R[n]? = some a) : R'[n]? = some a := by
  obtain ⟨r, rfl⟩ := p
  have hl : n < R.length := (List.getElem?_eq_some_iff.mp h).1
  rw [List.getElem?_append_left hl]; exact h
mutual
theorem Rp.mono {K : PySem.W.Frag} {G G' : Hp} {R R' : List Addr} (s : Same G G') (p : R <+: R') : ∀ {t : T} {v : V}, Rp K G R t v → Rp K G' R' t v
  | _, _, .non => .non
  | _, _, .bl b => .bl b
  | _, _, .int i => .int i
  | _, _, .str x => .str x
  | _, _, .tup h k => .tup (same_sqT s h) (RpL.mono s p k)
  | _, _, .lst h k => .lst (same_sqL s h) (RpL.mono s p k)
  | _, _, .box h => .box (pre_get p h)
theorem RpL.mono {K : PySem.W.Frag} {G G' : Hp} {R R' : List Addr} (s : Same G G') (p : R <+: R') : ∀ {ts : List T} {vs : List V}, RpL K G R ts vs → RpL K G' R' ts vs
  | _, _, .nil => .nil
  | _, _, .cons h k => .cons (Rp.mono s p h) (RpL.mono s p k)
end
section
variable {K : PySem.W.Frag} {G : Hp} {R : List Addr}
theorem RpL.len : ∀ {ts : List T} {vs : List V}, RpL K G R ts vs → ts.length = vs.length
  | _, _, .nil => rfl
  | _, _, .cons _ k => by rw [List.length_cons, List.length_cons, RpL.len k]
theorem RpL.get : ∀ {ts : List T} {vs : List V} {i : Nat} {t : T}, RpL K G R ts vs → ts[i]? = some t → ∃ v, vs[i]? = some v ∧ Rp K G R t v
  | _, _, _, _, .nil, e => by simp at e
  | _, _, 0, _, .cons h _, e => by simp at e; subst e; exact ⟨_, rfl, h⟩
  | _, _, i + 1, t, .cons _ k, e => by
    obtain ⟨v, h1, h2⟩ := RpL.get (i := i) (t := t) k (by simpa using e)
    exact ⟨v, by simpa using h1, h2⟩
theorem RpL.append : ∀ {ts us : List T} {vs ws : List V}, RpL K G R ts vs → RpL K G R us ws → RpL K G R (ts ++ us) (vs ++ ws)
  | _, _, _, _, .nil, k => k
  | _, _, _, _, .cons h k, k' => .cons h (RpL.append k k')
theorem RpL.take : ∀ {ts : List T} {vs : List V} (n : Nat), RpL K G R ts vs → RpL K G R (ts.take n) (vs.take n)
  | _, _, 0, _ => by simp only [List.take_zero]; exact .nil
  | _, _, n + 1, .nil => by simp only [List.take_nil]; exact .nil
  | _, _, n + 1, .cons h k => by simp only [List.take_succ_cons]; exact .cons h (RpL.take n k)
theorem RpL.drop : ∀ {ts : List T} {vs : List V} (n : Nat), RpL K G R ts vs → RpL K G R (ts.drop n) (vs.drop n)
  | _, _, 0, h => h
  | _, _, n + 1, .nil => by simp only [List.drop_nil]; exact .nil
  | _, _, n + 1, .cons _ k => by simp only [List.drop_succ_cons]; exact RpL.drop n k
theorem RpL.set : ∀ {ts : List T} {vs : List V} {t : T} {v : V} (i : Nat), Rp K G R t v → RpL K G R ts vs → RpL K G R (ts.set i t) (vs.set i v)
  | _, _, _, _, _, _, .nil => by simp only [List.set_nil]; exact .nil
  | _, _, _, _, 0, h, .cons _ k => by simp only [List.set_cons_zero]; exact .cons h k
  | _, _, _, _, i + 1, h, .cons h' k => by simp only [List.set_cons_succ]; exact .cons h' (RpL.set i h k)
theorem RpL.reverse : ∀ {ts : List T} {vs : List V}, RpL K G R ts vs → RpL K G R ts.reverse vs.reverse
  | _, _, .nil => by simp only [List.reverse_nil]; exact .nil
  | _, _, .cons h k => by simp only [List.reverse_cons]; exact RpL.append (RpL.reverse k) (.cons h .nil)
end

/-! ### good states, and how a state goes on -/
def CellOk (K : PySem.W.Frag) (G : Hp) (R : List Addr) (H : Hp) (a : Addr) : Cell → Prop
  | .lst ts => ∃ xs, H a = some (.lst xs) ∧ RpL K G R ts xs
structure Gd (K : PySem.W.Frag) (G : Hp) (R : List Addr) (H : Hp) (h : IH) : Prop where
  same : Same G H
  off : ∀ a ∈ R, G a = none
  nd : R.Nodup
  len : R.length = h.length
  cell : ∀ (n : Nat) (a : Addr) (c : Cell), R[n]? = some a → h[n]? = some c → CellOk K G R H a c
structure Ext (G : Hp) (R : List Addr) (H : Hp) (G' : Hp) (R' : List Addr) (H' : Hp) : Prop where
  same : Same G G'
  pre : R <+: R'
  kept : ∀ b o, H b = some o → b ∉ R → H' b = some o
  gnew : ∀ b, G b = none → G' b ≠ none → H b = none
  rnew : ∀ b ∈ R', b ∈ R ∨ H b = none
section
variable {K : PySem.W.Frag} {G G' G2 : Hp} {R R' R2 : List Addr} {H H' H2 : Hp} {h h' : IH} {a : Addr}
theorem Gd.there (g : Gd K G R H h) (ha : a ∈ R) : H a ≠ none := by
  obtain ⟨n, e⟩ := List.getElem?_of_mem ha
  have hn : n < R.length := (List.getElem?_eq_some_iff.mp e).1
  have hm : n < h.length := by rw [← g.len]; exact hn
  obtain ⟨c, hc⟩ : ∃ c, h[n]? = some c := ⟨_, List.getElem?_eq_getElem hm⟩
  have q := g.cell n a c e hc
  cases c with
  | lst ts =>
    obtain ⟨xs, e, _⟩ := q
    rw [e]; exact fun z => nomatch z
theorem Ext.refl : Ext G R H G R H := ⟨fun _ _ e => e, List.prefix_refl _, fun _ _ e _ => e, fun _ n z => absurd n z, fun _ m => .inl m⟩
theorem Ext.trans (g : Gd K G R H h) (g2 : Gd K G2 R2 H2 h') (a : Ext G R H G' R' H') (b : Ext G' R' H' G2 R2 H2) : Ext G R H G2 R2 H2 where
  same := same_trans a.same b.same
  pre := a.pre.trans b.pre
  kept := fun x o e n => b.kept x o (a.kept x o e n) fun m => (a.rnew x m).elim n fun z => by rw [e] at z; cases z
  gnew := fun x n z => by
    by_cases q : G' x = none
    · have h1 := b.gnew x q z
      cases e : H x with
      | none => rfl
      | some o =>
        by_cases m : x ∈ R
        · have m2 : x ∈ R2 := b.pre.subset (a.pre.subset m)
          exact absurd (g2.off x m2) z
        · have h2 := a.kept x o e m
          rw [h1] at h2; cases h2
    · exact a.gnew x n q
  rnew := fun x m => by
    rcases b.rnew x m with m | n
    · exact a.rnew x m
    · by_cases q : x ∈ R
      · exact .inl q
      · right
        cases e : H x with
        | none => rfl
        | some o =>
          have h2 := a.kept x o e q
          rw [n] at h2; cases h2
/-- what was free behind was free ahead -/
theorem Ext.free (g : Gd K G' R' H' h') (e : Ext G R H G' R' H') {b : Addr} (n : H' b = none) : H b = none := by
  cases q : H b with
  | none => rfl
  | some o =>
    by_cases m : b ∈ R
    · exact absurd n (g.there (e.pre.subset m))
    · have h2 := e.kept b o q m
      rw [n] at h2; cases h2
theorem Ext.rp (e : Ext G R H G' R' H') {t : T} {v : V} (r : Rp K G R t v) : Rp K G' R' t v := r.mono e.same e.pre
theorem Ext.rpl (e : Ext G R H G' R' H') {ts : List T} {vs : List V} (r : RpL K G R ts vs) : RpL K G' R' ts vs := r.mono e.same e.pre
end

/-! ### kinds of results -/
inductive Kd where
  | fz | own | any
/-- a list that may be read: in the ground, or a list that stands by itself -/
def Live (K : PySem.W.Frag) (G : Hp) (R : List Addr) (H : Hp) (t : T) (v : V) : Prop :=
  Rp K G R t v ∨ ∃ ts a xs, t = .lst ts ∧ v = .ref a ∧ H a = some (.lst xs) ∧ a ∉ R ∧ RpL K G R ts xs
def Res (K : PySem.W.Frag) (kd : Kd) (H₀ : Hp) (t : T) (v : V) (G : Hp) (R : List Addr) (H : Hp) : Prop :=
  match kd with
  | .fz => Rp K G R t v
  | .own => ∃ ts a xs, t = .lst ts ∧ v = .ref a ∧ H a = some (.lst xs) ∧ a ∉ R ∧ G a = none ∧ H₀ a = none ∧ RpL K G R ts xs
  | .any => Live K G R H t v
/-- an exception's class and fields -/
def XR (K : PySem.W.Frag) (mg : Str → Option Value) (x : Ex) (c : Value) (d : Option Addr) (G : Hp) (R : List Addr) (H : Hp) : Prop :=
  ∃ C : Addr, mg (Str.ofString x.name) = some (.ref C) ∧ c = .ref C ∧
    match x.args with
    | [] => d = none
    | l => ∃ dd fs, d = some dd ∧ H dd = some (.xd fs) ∧ dd ∉ R ∧ fs.map (·.1) = l.map (fun p => Str.ofString p.1) ∧ RpL K G R (l.map (·.2)) (fs.map (·.2))
/-- the slots: those of lin hold lists of their own -/
structure Fr (K : PySem.W.Frag) (lin : List Nat) (G : Hp) (R : List Addr) (H : Hp) (τ : Ev) (σ : L2.St) (N0 : Addr → Prop) : Prop where
  slot : ∀ i t, τ[i]? = some (some t) → i ∉ lin → ∃ v, σ[i]? = some (some v) ∧ Rp K G R t v
  own : ∀ i t, τ[i]? = some (some t) → i ∈ lin → ∃ ts a xs, t = .lst ts ∧ σ[i]? = some (some (.ref a)) ∧ H a = some (.lst xs) ∧ G a = none ∧ a ∉ R ∧ N0 a ∧ RpL K G R ts xs
  apart : ∀ i j t u a, τ[i]? = some (some t) → τ[j]? = some (some u) → i ∈ lin → j ∈ lin → σ[i]? = some (some (.ref a)) → σ[j]? = some (some (.ref a)) → i = j
  len : τ.length = σ.length
theorem Fr.ext {K : PySem.W.Frag} {lin : List Nat} {G G' : Hp} {R R' : List Addr} {H H' : Hp} {τ : Ev} {σ : L2.St} {N0 : Addr → Prop} (f : Fr K lin G R H τ σ N0) (e : Ext G R H G' R' H') : Fr K lin G' R' H' τ σ N0 where
  slot := fun i t h n => let ⟨v, h1, h2⟩ := f.slot i t h n; ⟨v, h1, e.rp h2⟩
  own := fun i t h m => by
    obtain ⟨ts, a, xs, h1, h2, h3, h4, h5, h6, h7⟩ := f.own i t h m
    refine ⟨ts, a, xs, h1, h2, e.kept a _ h3 h5, ?_, fun m => ?_, h6, e.rpl h7⟩
    · cases q : G' a with
      | none => rfl
      | some o =>
        have z := e.gnew a h4 (by rw [q]; exact fun z => nomatch z)
        rw [h3] at z; cases z
    · rcases e.rnew a m with m | n
      · exact h5 m
      · rw [h3] at n; cases n
  apart := f.apart
  len := f.len

/-- an outcome behind (G, R, H) -/
def Out {α : Type} (K : PySem.W.Frag) (mg : Str → Option Value) (E : XK) (G : Hp) (R : List Addr) (H : Hp) (r : Rs α) (P : α → Hp → List Addr → Hp → Prop) : Prop :=
  match r with
  | .ok t h' => ∀ G' R' H', Gd K G' R' H' h' → Ext G R H G' R' H' → P t G' R' H'
  | .exc x h' => ∀ G' R' H' c d, Gd K G' R' H' h' → Ext G R H G' R' H' → XR K mg x c d G' R' H' → E c d H'
  | .no => False
section
variable {K : PySem.W.Frag} {mg : Str → Option Value} {E : XK} {G G1 : Hp} {R R1 : List Addr} {H H1 : Hp} {h h1 : IH} {α : Type} {r : Rs α} {P : α → Hp → List Addr → Hp → Prop}
theorem Out.on (g : Gd K G R H h) (e : Ext G R H G1 R1 H1) (o : Out K mg E G R H r P) : Out K mg E G1 R1 H1 r P := by
  cases r with
  | ok t h' => exact fun G' R' H' g' e' => o G' R' H' g' (e.trans g g' e')
  | exc x h' => exact fun G' R' H' c d g' e' => o G' R' H' c d g' (e.trans g g' e')
  | no => exact o
end

/-! ### the lifted judgements -/
def lE (K : PySem.W.Frag) (mg : Str → Option Value) (E : WX) (lin : List Nat) (kd : Kd) (f : SE) : TE := fun σ H Q =>
  ∃ G R τ h N0, Gd K G R H h ∧ Fr K lin G R H τ σ N0 ∧ Out K mg (fun c d H' => E c d σ H') G R H (f τ h) fun t G' R' H' => ∀ v, Res K kd H t v G' R' H' → Q v H'
def lA (K : PySem.W.Frag) (mg : Str → Option Value) (E : WX) (lin : List Nat) (f : SA) : TA := fun σ H Q =>
  ∃ G R τ h N0, Gd K G R H h ∧ Fr K lin G R H τ σ N0 ∧ Out K mg (fun c d H' => E c d σ H') G R H (f τ h) fun ts G' R' H' => ∀ vs, RpL K G' R' ts vs → Q vs H'
def lB (K : PySem.W.Frag) (mg : Str → Option Value) (E : WX) (lin : List Nat) (f : SB) : TT := fun σ H Q =>
  ∃ G R τ h N0, Gd K G R H h ∧ Fr K lin G R H τ σ N0 ∧ Out K mg (fun c d H' => E c d σ H') G R H (f τ h) fun b G' R' H' => Q b H'
/-- an expression -/
def PEB (X : Cx) (E : WX) (lin : List Nat) (kd : Kd) (e : Expr) (f : SE) : Prop := PE X e (lE X.K X.mg E lin kd f)
/-- arguments (in the ground) -/
def PAB (X : Cx) (E : WX) (lin : List Nat) (es : List Expr) (f : SA) : Prop := PA X es (lA X.K X.mg E lin f)
/-- a test -/
def PTB (X : Cx) (E : WX) (lin : List Nat) (e : Expr) (f : SB) : Prop := PT X e (lB X.K X.mg E lin f)

theorem impE {X : Cx} {e : Expr} {t t' : TE} (h : PE X e t) (w : ∀ σ H Q, t' σ H Q → t σ H Q) : PE X e t' := ⟨fun pins s σ H Q I q => h.run pins s σ H Q I (w σ H Q q)⟩
theorem impT {X : Cx} {e : Expr} {t t' : TT} (h : PT X e t) (w : ∀ σ H Q, t' σ H Q → t σ H Q) : PT X e t' := ⟨fun pins s σ H Q I q => h.run pins s σ H Q I (w σ H Q q)⟩
theorem impA {X : Cx} {e : List Expr} {t t' : TA} (h : PA X e t) (w : ∀ σ H Q, t' σ H Q → t σ H Q) : PA X e t' := ⟨fun pos pins s σ H Q I q => h.run pos pins s σ H Q I (w σ H Q q)⟩
theorem impS {X : Cx} {e : Stmt} {t t' : TS} (h : PS X e t) (w : ∀ D σ H, t' D σ H → t D σ H) : PS X e t' := ⟨fun pins s σ H D I q => h.run pins s σ H D I (w D σ H q)⟩
theorem impSs {X : Cx} {e : List Stmt} {t t' : TS} (h : PSs X e t) (w : ∀ D σ H, t' D σ H → t D σ H) : PSs X e t' := ⟨fun pins s σ H D I q => h.run pins s σ H D I (w D σ H q)⟩

section
variable {K : PySem.W.Frag} {mg : Str → Option Value} {E : WX} {lin : List Nat} {kd : Kd} {G : Hp} {R : List Addr} {H : Hp} {h : IH} {τ : Ev} {σ : L2.St} {N0 : Addr → Prop} {α : Type} {P : α → Hp → List Addr → Hp → Prop}
/-- one part, then the rest -/
theorem lE.then {f : SE} {k : T → IH → Rs α} {Q : VK} (g : Gd K G R H h) (fr : Fr K lin G R H τ σ N0) (o : Out K mg (fun c d H' => E c d σ H') G R H ((f τ h).bind k) P)
    (hq : ∀ t v h1 G1 R1 H1, Gd K G1 R1 H1 h1 → Ext G R H G1 R1 H1 → Fr K lin G1 R1 H1 τ σ N0 → Res K kd H t v G1 R1 H1 → Out K mg (fun c d H' => E c d σ H') G1 R1 H1 (k t h1) P → Q v H1) : lE K mg E lin kd f σ H Q := by
  refine ⟨G, R, τ, h, N0, g, fr, ?_⟩
  cases e : f τ h with
  | ok t h1 =>
    rw [e] at o
    exact fun G1 R1 H1 g1 e1 v r => hq t v h1 G1 R1 H1 g1 e1 (fr.ext e1) r (Out.on (h := h) g e1 o)
  | exc x h1 => rw [e] at o; exact o
  | no => rw [e] at o; exact o
theorem lA.then {f : SA} {k : List T → IH → Rs α} {Q : List V → Hp → Prop} (g : Gd K G R H h) (fr : Fr K lin G R H τ σ N0) (o : Out K mg (fun c d H' => E c d σ H') G R H ((f τ h).bind k) P)
    (hq : ∀ ts vs h1 G1 R1 H1, Gd K G1 R1 H1 h1 → Ext G R H G1 R1 H1 → Fr K lin G1 R1 H1 τ σ N0 → RpL K G1 R1 ts vs → Out K mg (fun c d H' => E c d σ H') G1 R1 H1 (k ts h1) P → Q vs H1) : lA K mg E lin f σ H Q := by
  refine ⟨G, R, τ, h, N0, g, fr, ?_⟩
  cases e : f τ h with
  | ok t h1 =>
    rw [e] at o
    exact fun G1 R1 H1 g1 e1 v r => hq t v h1 G1 R1 H1 g1 e1 (fr.ext e1) r (Out.on (h := h) g e1 o)
  | exc x h1 => rw [e] at o; exact o
  | no => rw [e] at o; exact o
theorem lB.then {f : SB} {k : Bool → IH → Rs α} {Q : Bool → Hp → Prop} (g : Gd K G R H h) (fr : Fr K lin G R H τ σ N0) (o : Out K mg (fun c d H' => E c d σ H') G R H ((f τ h).bind k) P)
    (hq : ∀ b h1 G1 R1 H1, Gd K G1 R1 H1 h1 → Ext G R H G1 R1 H1 → Fr K lin G1 R1 H1 τ σ N0 → Out K mg (fun c d H' => E c d σ H') G1 R1 H1 (k b h1) P → Q b H1) : lB K mg E lin f σ H Q := by
  refine ⟨G, R, τ, h, N0, g, fr, ?_⟩
  cases e : f τ h with
  | ok t h1 =>
    rw [e] at o
    exact fun G1 R1 H1 g1 e1 => hq t h1 G1 R1 H1 g1 e1 (fr.ext e1) (Out.on (h := h) g e1 o)
  | exc x h1 => rw [e] at o; exact o
  | no => rw [e] at o; exact o
end
end GB
namespace GB
open PySem PySem.Spec PyProof.Rows L2

/-! ### small facts -/
section
variable {K : PySem.W.Frag} {G G' : Hp} {R R' : List Addr} {H H' H₀ : Hp} {h h' : IH} {kd : Kd} {t : T} {v : V}
theorem Res.live (r : Res K kd H₀ t v G R H) : Live K G R H t v := by
  cases kd with
  | fz => exact .inl r
  | own =>
    obtain ⟨ts, a, xs, h1, h2, h3, h4, _, _, h5⟩ := r
    exact .inr ⟨ts, a, xs, h1, h2, h3, h4, h5⟩
  | any => exact r
theorem Live.ext (e : Ext G R H G' R' H') (r : Live K G R H t v) : Live K G' R' H' t v := by
  rcases r with r | ⟨ts, a, xs, h1, h2, h3, h4, h5⟩
  · exact .inl (e.rp r)
  · refine .inr ⟨ts, a, xs, h1, h2, e.kept a _ h3 h4, fun m => ?_, e.rpl h5⟩
    rcases e.rnew a m with m | n
    · exact h4 m
    · rw [h3] at n; cases n
/-- fresh behind a step is fresh ahead of it -/
theorem Res.back (g : Gd K G R H h) (e : Ext G₀ R₀ H₀ G R H) {G' : Hp} {R' : List Addr} {H' : Hp} (r : Res K kd H t v G' R' H') : Res K kd H₀ t v G' R' H' := by
  cases kd with
  | fz => exact r
  | any => exact r
  | own =>
    obtain ⟨ts, a, xs, h1, h2, h3, h4, h5, h6, h7⟩ := r
    exact ⟨ts, a, xs, h1, h2, h3, h4, h5, e.free g h6, h7⟩
end
def Rs.of {α : Type} (o : Option α) (h : IH) : Rs α :=
  match o with
  | some a => .ok a h
  | none => .no
/-- the items of a list (a tree's, a box's), of a tuple -/
def asL (h : IH) : T → Option (List T)
  | .lst ts => some ts
  | .box n => match h[n]? with
    | some (.lst ts) => some ts
    | _ => none
  | _ => none
def asT : T → Option (List T)
  | .tup ts => some ts
  | _ => none
section
variable {K : PySem.W.Frag} {G G' : Hp} {R R' : List Addr} {H H' H₀ : Hp} {h h' : IH} {t : T} {ts : List T} {v : V}
theorem Gd.sqT (g : Gd K G R H h) {a : Addr} {xs : List V} (q : SqT K G a xs) : SqT K H a xs := same_sqT g.same q
theorem Gd.sqL (g : Gd K G R H h) {a : Addr} {xs : List V} (q : SqL K G a xs) : SqL K H a xs := same_sqL g.same q
theorem Live.asL (g : Gd K G R H h) (r : Live K G R H t v) (e : asL h t = some ts) : ∃ a xs, v = .ref a ∧ SqL K H a xs ∧ RpL K G R ts xs := by
  rcases r with r | ⟨us, a, xs, h1, h2, h3, h4, h5⟩
  · cases r with
    | lst q k =>
      cases e
      exact ⟨_, _, rfl, g.sqL q, k⟩
    | @box a n q =>
      have e' : (match h[n]? with | some (.lst us) => some us | _ => none) = some ts := e
      split at e'
      · rename_i us eq
        cases e'
        obtain ⟨xs, h1, h2⟩ := g.cell n a _ q eq
        exact ⟨a, xs, rfl, SqL.of h1, h2⟩
      · cases e'
    | _ => cases e
  · subst h1
    cases e
    exact ⟨a, xs, h2, SqL.of h3, h5⟩
theorem Live.asT (g : Gd K G R H h) (r : Live K G R H t v) (e : asT t = some ts) : ∃ a xs, v = .ref a ∧ SqT K G a xs ∧ RpL K G R ts xs := by
  rcases r with r | ⟨us, a, xs, h1, _⟩
  · cases r with
    | tup q k =>
      cases e
      exact ⟨_, _, rfl, q, k⟩
    | _ => cases e
  · subst h1
    cases e
theorem Live.int {i : Int} (r : Live K G R H (.int i) v) : v = .int i := by
  rcases r with r | ⟨_, _, _, h1, _⟩
  · cases r; rfl
  · cases h1
theorem Live.str {i : Str} (r : Live K G R H (.str i) v) : v = .str i := by
  rcases r with r | ⟨_, _, _, h1, _⟩
  · cases r; rfl
  · cases h1
theorem Live.bl {i : Bool} (r : Live K G R H (.bl i) v) : v = .bl i := by
  rcases r with r | ⟨_, _, _, h1, _⟩
  · cases r; rfl
  · cases h1
theorem Live.non (r : Live K G R H .non v) : v = .non := by
  rcases r with r | ⟨_, _, _, h1, _⟩
  · cases r; rfl
  · cases h1
/-- a new object: laid into the ground -/
theorem Gd.newG (g : Gd K G R H h) {p : Addr} {o : HO} (n : H p = none) : Gd K (upd G p o) R (upd H p o) h ∧ Ext G R H (upd G p o) R (upd H p o) := by
  have nG : G p = none := by
    cases q : G p with
    | none => rfl
    | some u => rw [g.same _ _ q] at n; cases n
  have sG : Same G (upd G p o) := fun b u e => by rw [upd_ne (ne_of_none e nG)]; exact e
  have hk : ∀ b u, H b = some u → b ∉ R → upd H p o b = some u := fun b u e _ => by rw [upd_ne (ne_of_none e n)]; exact e
  refine ⟨⟨fun b u e => ?_, fun a m => ?_, g.nd, g.len, fun i a c e1 e2 => ?_⟩, ⟨sG, List.prefix_refl _, hk, fun b nb z => ?_, fun b m => .inl m⟩⟩
  · by_cases q : b = p
    · subst q; rw [upd_same] at e ⊢; exact e
    · rw [upd_ne q] at e ⊢; exact g.same _ _ e
  · have na : a ≠ p := fun z => by subst z; exact g.there m n
    rw [upd_ne na]; exact g.off a m
  · have q := g.cell i a c e1 e2
    cases c with
    | lst us =>
      obtain ⟨xs, h1, h2⟩ := q
      exact ⟨xs, by rw [upd_ne (ne_of_none h1 n)]; exact h1, h2.mono sG (List.prefix_refl _)⟩
  · by_cases q : b = p
    · subst q; exact n
    · rw [upd_ne q, nb] at z; exact absurd rfl z
/-- a new object that stands by itself -/
theorem Gd.newO (g : Gd K G R H h) {p : Addr} {o : HO} (n : H p = none) : Gd K G R (upd H p o) h ∧ Ext G R H G R (upd H p o) ∧ G p = none ∧ p ∉ R := by
  have nG : G p = none := by
    cases q : G p with
    | none => rfl
    | some u => rw [g.same _ _ q] at n; cases n
  refine ⟨⟨fun b u e => by rw [upd_ne (ne_of_none e nG)]; exact g.same _ _ e, g.off, g.nd, g.len, fun i a c e1 e2 => ?_⟩, ⟨fun _ _ e => e, List.prefix_refl _, fun b u e _ => by rw [upd_ne (ne_of_none e n)]; exact e, fun b nb z => absurd nb z, fun b m => .inl m⟩, nG, fun m => g.there m n⟩
  have q := g.cell i a c e1 e2
  cases c with
  | lst us =>
    obtain ⟨xs, h1, h2⟩ := q
    exact ⟨xs, by rw [upd_ne (ne_of_none h1 n)]; exact h1, h2⟩
end

/-! ### constants, names -/
def eC (t : T) : SE := fun _ h => .ok t h
def eV (i : Nat) : SE := fun τ h =>
  match τ[i]? with
  | some (some t) => .ok t h
  | _ => .no
section
variable {X : Cx} {E : WX} {lin : List Nat} {kd k1 k2 : Kd} {e a b c : Expr} {fa fb fc : SE} {pos : Pos}
theorem pb_const {t : T} {v : V} (h : PE X e (tC v)) (r : ∀ G R, Rp X.K G R t v) : PEB X E lin .fz e (eC t) := impE h fun σ H Q ⟨G, R, τ, h, N0, g, fr, o⟩ => o G R H g .refl v (r G R)
theorem pb_int {i j} : PEB X E lin .fz (.Constant (.int i) j pos) (eC (.int i)) := pb_const pe_int fun _ _ => .int i
theorem pb_bl {i j} : PEB X E lin .fz (.Constant (.bool i) j pos) (eC (.bl i)) := pb_const pe_bl fun _ _ => .bl i
theorem pb_str {i j} : PEB X E lin .fz (.Constant (.str i) j pos) (eC (.str i)) := pb_const pe_str fun _ _ => .str i
theorem pb_non {j} : PEB X E lin .fz (.Constant .none j pos) (eC .non) := pb_const pe_non fun _ _ => .non
theorem pb_glob {x : Str} {t : T} {v : V} {u : Value} (hg : Gl X x) (hm : X.mg x = some u) (r : RelV v u) (q : ∀ G R, Rp X.K G R t v) (hd : (x == ("__debug__" : Str)) = false := by decide) : PEB X E lin .fz (.Name x pos) (eC t) := pb_const (pe_glob hg hm r hd) q
theorem pb_v (i : Nat) {x : Str} (hl : lin.contains i = false) (hN : X.N[i]? = some x := by rfl) (hv : Vis X.env.scope x := by first | exact Or.inl rfl | exact Or.inr (Or.inl rfl) | exact Or.inr (Or.inr rfl)) (hd : (x == ("__debug__" : Str)) = false := by decide)
    (hcd : (x == ("__classdict__" : Str)) = false := by decide) : PEB X E lin .fz (.Name x pos) (eV i) := impE (pe_var hN hv hd hcd) fun σ H Q ⟨G, R, τ, h, N0, g, fr, o⟩ => by
  unfold eV at o
  split at o
  · rename_i t e
    have nl : i ∉ lin := fun m => by rw [List.contains_iff_mem.mpr m] at hl; cases hl
    obtain ⟨v, h1, h2⟩ := fr.slot i t e nl
    exact ⟨v, h1, o G R H g .refl v h2⟩
  · exact o.elim
/-- a list of the def's own, read -/
theorem pb_vl (i : Nat) {x : Str} (hl : lin.contains i = true) (hN : X.N[i]? = some x := by rfl) (hv : Vis X.env.scope x := by first | exact Or.inl rfl | exact Or.inr (Or.inl rfl) | exact Or.inr (Or.inr rfl)) (hd : (x == ("__debug__" : Str)) = false := by decide)
    (hcd : (x == ("__classdict__" : Str)) = false := by decide) : PEB X E lin .any (.Name x pos) (eV i) := impE (pe_var hN hv hd hcd) fun σ H Q ⟨G, R, τ, h, N0, g, fr, o⟩ => by
  unfold eV at o
  split at o
  · rename_i t e
    obtain ⟨ts, a, xs, h1, h2, h3, _, h5, _, h7⟩ := fr.own i t e (List.contains_iff_mem.mp hl)
    exact ⟨_, h2, o G R H g .refl _ (.inr ⟨ts, a, xs, h1, rfl, h3, h5, h7⟩)⟩
  · exact o.elim

/-! ### a result of one kind taken as of another -/
/-- a list of its own goes into the ground -/
theorem Gd.freeze {K : PySem.W.Frag} {G : Hp} {R : List Addr} {H : Hp} {h : IH} {a : Addr} {o : HO} (g : Gd K G R H h) (e : H a = some o) (n : G a = none) (m : a ∉ R) : Gd K (upd G a o) R H h ∧ Same G (upd G a o) := by
  have sG : Same G (upd G a o) := fun b u e => by rw [upd_ne (ne_of_none e n)]; exact e
  refine ⟨⟨fun b u eb => ?_, fun b mb => ?_, g.nd, g.len, fun i b c e1 e2 => ?_⟩, sG⟩
  · by_cases q : b = a
    · subst q; rw [upd_same] at eb; rw [← eb]; exact e
    · rw [upd_ne q] at eb; exact g.same _ _ eb
  · rw [upd_ne (fun z => m (by rw [← z]; exact mb))]; exact g.off b mb
  · have q := g.cell i b c e1 e2
    cases c with
    | lst us =>
      obtain ⟨xs, h1, h2⟩ := q
      exact ⟨xs, h1, h2.mono sG (List.prefix_refl _)⟩
theorem pb_fz (ha : PEB X E lin .own a fa) : PEB X E lin .fz a fa := impE ha fun σ H Q ⟨G, R, τ, h, N0, g, fr, o⟩ => by
  refine ⟨G, R, τ, h, N0, g, fr, ?_⟩
  cases q : fa τ h with
  | ok t h' =>
    rw [q] at o
    intro G' R' H' g' e' v r
    obtain ⟨ts, a, xs, h1, h2, h3, h4, h5, h6, h7⟩ := r
    obtain ⟨g2, s2⟩ := g'.freeze h3 h5 h4
    refine o (upd G' a (.lst xs)) R' H' g2 ⟨same_trans e'.same s2, e'.pre, e'.kept, fun b n z => ?_, e'.rnew⟩ v ?_
    · by_cases hb : b = a
      · rw [hb]; exact h6
      · rw [upd_ne hb] at z; exact e'.gnew b n z
    · subst h1 h2
      exact .lst (SqL.of upd_same) (h7.mono s2 (List.prefix_refl _))
  | exc x h' => rw [q] at o; exact o
  | no => rw [q] at o; exact o
theorem pb_any (ha : PEB X E lin kd a fa) : PEB X E lin .any a fa := impE ha fun σ H Q ⟨G, R, τ, h, N0, g, fr, o⟩ => by
  refine ⟨G, R, τ, h, N0, g, fr, ?_⟩
  cases q : fa τ h with
  | ok t h' => rw [q] at o; exact fun G' R' H' g' e' v r => o G' R' H' g' e' v (Res.live r)
  | exc x h' => rw [q] at o; exact o
  | no => rw [q] at o; exact o

/-! ### operators by values -/
abbrev G2 := T → T → IH → Option T
abbrev G1 := T → IH → Option T
def eBin (g : G2) (a b : SE) : SE := fun τ h => (a τ h).bind fun x h1 => (b τ h1).bind fun y h2 => Rs.of (g x y h2) h2
def eUn (g : G1) (a : SE) : SE := fun τ h => (a τ h).bind fun x h1 => Rs.of (g x h1) h1
/-- r serves g -/
def Op2 (K : PySem.W.Frag) (r : R2) (g : G2) (kd : Kd) : Prop := ∀ (G : Hp) (R : List Addr) (H : Hp) (h : IH) (x y : T) (vx vy : V) (z : T) (Q : VK), Gd K G R H h → Live K G R H x vx → Live K G R H y vy → g x y h = some z →
  (∀ v G' R' H', Gd K G' R' H' h → Ext G R H G' R' H' → Res K kd H z v G' R' H' → Q v H') → r vx vy H Q
def Op1 (K : PySem.W.Frag) (r : V → Hp → VK → Prop) (g : G1) (kd : Kd) : Prop := ∀ (G : Hp) (R : List Addr) (H : Hp) (h : IH) (x : T) (vx : V) (z : T) (Q : VK), Gd K G R H h → Live K G R H x vx → g x h = some z →
  (∀ v G' R' H', Gd K G' R' H' h → Ext G R H G' R' H' → Res K kd H z v G' R' H' → Q v H') → r vx H Q
theorem two {r : R2} {g : G2} (hg : Op2 X.K r g kd) (σ : L2.St) (H : Hp) (Q : VK) : lE X.K X.mg E lin kd (eBin g fa fb) σ H Q → tOp r (lE X.K X.mg E lin k1 fa) (lE X.K X.mg E lin k2 fb) σ H Q := fun ⟨G, R, τ, h, N0, gd, fr, o⟩ => by
  refine lE.then gd fr o fun x vx h1 G1 R1 H1 g1 e1 f1 r1 o1 => ?_
  refine lE.then g1 f1 o1 fun y vy h2 G2 R2 H2 g2 e2 f2 r2 o2 => ?_
  cases q : g x y h2 with
  | none => rw [q] at o2; exact o2.elim
  | some z =>
    rw [q] at o2
    exact hg G2 R2 H2 h2 x y vx vy z Q g2 (Live.ext e2 (Res.live r1)) (Res.live r2) q fun v G' R' H' g' e' r' => o2 G' R' H' g' e' v (Res.back g2 (e1.trans gd g2 e2) r')
theorem one {r : V → Hp → VK → Prop} {g : G1} (hg : Op1 X.K r g kd) (σ : L2.St) (H : Hp) (Q : VK) : lE X.K X.mg E lin kd (eUn g fa) σ H Q → tUn r (lE X.K X.mg E lin k1 fa) σ H Q := fun ⟨G, R, τ, h, N0, gd, fr, o⟩ => by
  refine lE.then gd fr o fun x vx h1 G1 R1 H1 g1 e1 f1 r1 o1 => ?_
  cases q : g x h1 with
  | none => rw [q] at o1; exact o1.elim
  | some z =>
    rw [q] at o1
    exact hg G1 R1 H1 h1 x vx z Q g1 (Res.live r1) q fun v G' R' H' g' e' r' => o1 G' R' H' g' e' v (Res.back g1 e1 r')
theorem pb_op {op : Operator} {r : R2} {g : G2} (ho : OpR X (binaryOp op) r) (hg : Op2 X.K r g kd) (ha : PEB X E lin k1 a fa) (hb : PEB X E lin k2 b fb) : PEB X E lin kd (.BinOp a op b pos) (eBin g fa fb) := impE (pe_op ho ha hb) (two hg)
theorem pb_un {op : UnaryOp} {r : V → Hp → VK → Prop} {g : G1} (ho : UnR X (unaryOp op) r) (hg : Op1 X.K r g kd) (ha : PEB X E lin k1 a fa) : PEB X E lin kd (.UnaryOp op a pos) (eUn g fa) := impE (pe_un ho ha) (one hg)
theorem pb_cmp {op : CmpOp} {r : R2} {g : G2} (ho : OpR X (compareOp op) r) (hg : Op2 X.K r g kd) (hm : behindInMarks op b = false) (ha : PEB X E lin k1 a fa) (hb : PEB X E lin k2 b fb) : PEB X E lin kd (.Compare a [op] [b] pos) (eBin g fa fb) := impE (pe_cmpR ho ha hb hm) (two hg)
theorem pb_ix {r : R2} {g : G2} (ho : IxR X r) (hg : Op2 X.K r g kd) (hs : PlainIx b) (ha : PEB X E lin k1 a fa) (hb : PEB X E lin k2 b fb) : PEB X E lin kd (.Subscript a b pos) (eBin g fa fb) := impE (pe_ix ho ha hb hs) (two hg)
end
end GB
namespace GB
open PySem PySem.Spec PyProof.Rows L2

/-! ### ints -/
def gI (C : Int → Int → Bool) (f : Int → Int → T) : G2
  | .int i, .int j, _ => if C i j = true then some (f i j) else none
  | _, _, _ => none
theorem gI_int {C : Int → Int → Bool} {f : Int → Int → T} {i j : Int} {h : IH} (c : C i j = true) : gI C f (.int i) (.int j) h = some (f i j) := if_pos c
theorem gI_inv {C : Int → Int → Bool} {f : Int → Int → T} : ∀ {x y : T} {h : IH} {z : T}, gI C f x y h = some z → ∃ i j, x = .int i ∧ y = .int j ∧ C i j = true ∧ z = f i j := by
  intro x y h z e
  unfold gI at e
  split at e
  · split at e
    · rename_i i j c; cases e; exact ⟨i, j, rfl, rfl, c, rfl⟩
    · cases e
  · cases e
def okMul (i j : Int) : Bool := decide ((Builtin.Int.intBits i : Int) + (Builtin.Int.intBits j : Int) ≤ 134217728)
def okDiv (_ j : Int) : Bool := decide (j ≠ 0 ∧ j.natAbs.log2 < 9000)
def okMod (_ j : Int) : Bool := decide (j ≠ 0)
def okPow (i j : Int) : Bool := decide (0 ≤ j ∧ j ≤ 1000000 ∧ i.natAbs < 2 ^ 64)
def okAll (_ _ : Int) : Bool := true
def CDivA (_ j : Int) : Prop := j ≠ 0 ∧ j.natAbs.log2 < 9000
def gSub : G2 := gI okAll fun i j => .int (i - j)
def gMul : G2 := gI okMul fun i j => .int (i * j)
def gDiv : G2 := gI okDiv fun i j => .int (i.fdiv j)
def gMod : G2 := gI okMod fun i j => .int (i.fmod j)
def gPow : G2 := gI okPow fun i j => .int (i ^ j.toNat)
def gShl : G2 := gI okPow fun i j => .int (i * 2 ^ j.toNat)
def gLt : G2 := gI okAll fun i j => .bl (decide (i < j))
def gLe : G2 := gI okAll fun i j => .bl (decide (i ≤ j))
def gGt : G2 := gI okAll fun i j => .bl (decide (j < i))
def gGe : G2 := gI okAll fun i j => .bl (decide (j ≤ i))
section
variable {K : PySem.W.Frag} {X : Cx}
theorem op_divA : OpR X (binaryOp .FloorDiv) (rI CDivA fun i j => .int (i.fdiv j)) := opI fun _ _ _ _ _ _ _ hc q => floordiv_int hc.1 q (.inl (PyProof.noPylong_of_log2 hc.2))
theorem o2_I {C : Int → Int → Bool} {f : Int → Int → T} {P : Int → Int → Prop} {w : Int → Int → V} (hp : ∀ i j, C i j = true → P i j) (hw : ∀ G R i j, Rp K G R (f i j) (w i j)) : Op2 K (rI P w) (gI C f) .fz := by
  intro G R H h x y vx vy z Q g lx ly e k
  obtain ⟨i, j, rfl, rfl, c, rfl⟩ := gI_inv e
  exact ⟨i, j, lx.int, ly.int, hp i j c, k _ G R H g .refl (hw G R i j)⟩
theorem o2_I0 {f : Int → Int → T} {w : Int → Int → V} (hw : ∀ G R i j, Rp K G R (f i j) (w i j)) : Op2 K (rI0 w) (gI okAll f) .fz := by
  intro G R H h x y vx vy z Q g lx ly e k
  obtain ⟨i, j, rfl, rfl, c, rfl⟩ := gI_inv e
  exact ⟨i, j, lx.int, ly.int, k _ G R H g .refl (hw G R i j)⟩
theorem o2_sub : Op2 K (rI0 fun i j => .int (i - j)) gSub .fz := o2_I0 fun _ _ _ _ => .int _
theorem o2_mul : Op2 K (rI CMulX fun i j => .int (i * j)) gMul .fz := o2_I (fun _ _ c => by unfold okMul at c; have c2 := of_decide_eq_true c; exact c2) fun _ _ _ _ => .int _
theorem o2_div : Op2 K (rI CDivA fun i j => .int (i.fdiv j)) gDiv .fz := o2_I (fun _ _ c => by unfold okDiv at c; have c2 := of_decide_eq_true c; exact c2) fun _ _ _ _ => .int _
theorem o2_mod : Op2 K (rI (fun _ j => j ≠ 0) fun i j => .int (i.fmod j)) gMod .fz := o2_I (fun _ _ c => of_decide_eq_true c) fun _ _ _ _ => .int _
theorem o2_pow : Op2 K (rI CPow fun i j => .int (i ^ j.toNat)) gPow .fz := o2_I (fun _ _ c => by unfold okPow at c; have c2 := of_decide_eq_true c; exact c2) fun _ _ _ _ => .int _
theorem o2_shl : Op2 K (rI CPow fun i j => .int (i * 2 ^ j.toNat)) gShl .fz := o2_I (fun _ _ c => by unfold okPow at c; have c2 := of_decide_eq_true c; exact c2) fun _ _ _ _ => .int _
theorem o2_lt : Op2 K (rI0 fun i j => .bl (decide (i < j))) gLt .fz := o2_I0 fun _ _ _ _ => .bl _
theorem o2_le : Op2 K (rI0 fun i j => .bl (decide (i ≤ j))) gLe .fz := o2_I0 fun _ _ _ _ => .bl _
theorem o2_gt : Op2 K (rI0 fun i j => .bl (decide (j < i))) gGt .fz := o2_I0 fun _ _ _ _ => .bl _
theorem o2_ge : Op2 K (rI0 fun i j => .bl (decide (j ≤ i))) gGe .fz := o2_I0 fun _ _ _ _ => .bl _
end
/-- + of ints, texts, tuples -/
def gAdd : G2
  | .int i, .int j, _ => some (.int (i + j))
  | .str a, .str b, _ => if a.length + b.length ≤ sizeLine then some (.str (a ++ b)) else none
  | .tup a, .tup b, _ => if a.length + b.length ≤ sizeLine then some (.tup (a ++ b)) else none
  | _, _, _ => none
def rAddA (K : PySem.W.Frag) : R2 := fun x y H Q => (∃ i j, x = .int i ∧ y = .int j ∧ Q (.int (i + j)) H) ∨ (∃ i j, x = .str i ∧ y = .str j ∧ i.length + j.length ≤ sizeLine ∧ Q (.str (i ++ j)) H) ∨ rCatA K x y H Q
/-- + of lists: a new one -/
def gCat : G2 := fun x y h =>
  match asL h x, asL h y with
  | some a, some b => if a.length + b.length ≤ sizeLine then some (.lst (a ++ b)) else none
  | _, _ => none
/-- t * k of tuples -/
def gRepT : G2
  | .tup a, .int k, _ => if a ≠ [] ∧ 2 ≤ k ∧ k ≤ 1000 ∧ a.length ≤ 1000 then some (.tup (List.replicate k.toNat a).flatten) else none
  | _, _, _ => none
section
variable {K : PySem.W.Frag} {X : Cx}
theorem op_addA : OpR X (binaryOp .Add) (rAddA X.K) := op_add.or (op_add_str.or op_catA)
theorem rpl_nil {G : Hp} {R : List Addr} {ts : List T} {xs : List V} (r : RpL K G R ts xs) : ts = [] ↔ xs = [] := by
  cases r <;> simp
theorem o2_add : Op2 K (rAddA K) gAdd .fz := by
  intro G R H h x y vx vy z Q g lx ly e k
  unfold gAdd at e
  split at e
  · cases e; exact .inl ⟨_, _, lx.int, ly.int, k _ G R H g .refl (.int _)⟩
  · split at e
    · cases e; exact .inr (.inl ⟨_, _, lx.str, ly.str, by assumption, k _ G R H g .refl (.str _)⟩)
    · cases e
  · split at e
    · rename_i a b hl
      cases e
      obtain ⟨p, xs, rfl, qx, rx⟩ := lx.asT g rfl
      obtain ⟨q, ys, rfl, qy, ry⟩ := ly.asT g rfl
      refine .inr (.inr ⟨p, q, xs, ys, rfl, rfl, g.sqT qx, g.sqT qy, by rw [← rx.len, ← ry.len]; exact hl, fun n => ?_, fun _ n => ?_, fun _ _ l nl => ?_⟩)
      · have n' := (rpl_nil rx).mpr n
        subst n'
        exact k _ G R H g .refl (by rw [List.nil_append]; exact .tup qy ry)
      · have n' := (rpl_nil ry).mpr n
        subst n'
        exact k _ G R H g .refl (by rw [List.append_nil]; exact .tup qx rx)
      · obtain ⟨g2, e2⟩ := g.newG (o := .tup (xs ++ ys)) nl
        exact k _ _ _ _ g2 e2 (.tup (SqT.of upd_same) (e2.rpl (rx.append ry)))
    · cases e
  · cases e
def rCatL (K : PySem.W.Frag) : R2 := fun x y H Q => ∃ l b xs zs, x = .ref l ∧ y = .ref b ∧ SqL K H l xs ∧ SqL K H b zs ∧ xs.length + zs.length ≤ sizeLine ∧ ∀ p, H p = none → Q (.ref p) (upd H p (.lst (xs ++ zs)))
end
/-! ### data, and == -/
mutual
def py0 : T → Option PyData
  | .non => some .none
  | .bl b => some (.bool b)
  | .int i => some (.int i)
  | .str s => some (.str s)
  | .tup ts => (pyL ts).map PyData.tuple
  | .lst ts => (pyL ts).map PyData.list
  | .box _ => none
def pyL : List T → Option (List PyData)
  | [] => some []
  | t :: ts => match py0 t, pyL ts with
    | some d, some ds => some (d :: ds)
    | _, _ => none
end
def pyH (h : IH) : T → Option PyData
  | .box n => match h[n]? with
    | some (.lst ts) => (pyL ts).map PyData.list
    | _ => none
  | t => py0 t
section
variable {K : PySem.W.Frag} {G G' : Hp} {R R' : List Addr} {H H' H₀ : Hp} {h h' : IH}
mutual
theorem dp_of (s : Same G H) : ∀ {t : T} {v : V} {d : PyData}, Rp K G R t v → py0 t = some d → Dp K H v d
  | _, _, d, .non, e => by cases e; exact .non
  | _, _, d, .bl b, e => by cases e; exact .bl b
  | _, _, d, .int i, e => by cases e; exact .int i
  | _, _, d, .str x, e => by cases e; exact .str x
  | _, _, d, .tup (ts := ts) q k, e => by
    have e' : (pyL ts).map PyData.tuple = some d := e
    obtain ⟨ds, h1, rfl⟩ := Option.map_eq_some_iff.mp e'
    exact .tup (same_sqT s q) (dp_all s k h1)
  | _, _, d, .lst (ts := ts) q k, e => by
    have e' : (pyL ts).map PyData.list = some d := e
    obtain ⟨ds, h1, rfl⟩ := Option.map_eq_some_iff.mp e'
    exact .lst (same_sqL s q) (dp_all s k h1)
  | _, _, d, .box _, e => by cases e
theorem dp_all (s : Same G H) : ∀ {ts : List T} {vs : List V} {ds : List PyData}, RpL K G R ts vs → pyL ts = some ds → DpAll K H vs ds
  | _, _, ds, .nil, e => by cases e; exact .nil
  | _, _, ds, .cons (t := t) (ts := ts) h k, e => by
    have e' : (match py0 t, pyL ts with | some d, some ds => some (d :: ds) | _, _ => none) = some ds := e
    split at e'
    · rename_i d ds' e1 e2
      cases e'
      exact .cons (dp_of s h e1) (dp_all s k e2)
    · cases e'
end
theorem Live.dp (g : Gd K G R H h) {t : T} {v : V} {d : PyData} (r : Live K G R H t v) (e : pyH h t = some d) : Dp K H v d := by
  rcases r with r | ⟨ts, a, xs, rfl, rfl, h3, h4, h5⟩
  · cases r with
    | @box a n q =>
      have e' : (match h[n]? with | some (.lst ts) => (pyL ts).map PyData.list | _ => none) = some d := e
      split at e'
      · rename_i us eq
        obtain ⟨xs, h1, h2⟩ := g.cell n a _ q eq
        obtain ⟨ds, h3, rfl⟩ := Option.map_eq_some_iff.mp e'
        exact .lst (SqL.of h1) (dp_all g.same h2 h3)
      · cases e'
    | non => exact dp_of (R := R) g.same .non e
    | bl b => exact dp_of (R := R) g.same (.bl b) e
    | int b => exact dp_of (R := R) g.same (.int b) e
    | str b => exact dp_of (R := R) g.same (.str b) e
    | tup q k => exact dp_of (R := R) g.same (.tup q k) e
    | lst q k => exact dp_of (R := R) g.same (.lst q k) e
  · have e' : (pyL ts).map PyData.list = some d := e
    obtain ⟨ds, h1, rfl⟩ := Option.map_eq_some_iff.mp e'
    exact .lst (SqL.of h3) (dp_all g.same h5 h1)
end
def gEqB (neg : Bool) : G2 := fun x y h =>
  match pyH h x, pyH h y with
  | some d, some e => if (SeqAt.shaped d && SeqAt.shaped e) = true then some (.bl (neg ^^ PyData.eqv d e)) else none
  | _, _ => none
def gEq : G2 := gEqB false
def gNe : G2 := gEqB true
section
variable {K : PySem.W.Frag} {X : Cx}
theorem o2_eq : Op2 K (rEqD K) gEq .fz := by
  intro G R H h x y vx vy z Q g lx ly e k
  unfold gEq gEqB at e
  split at e
  · rename_i d d' e1 e2
    split at e
    · rename_i sh
      rw [Bool.and_eq_true] at sh
      cases e
      exact ⟨d, d', lx.dp g e1, ly.dp g e2, sh.1, sh.2, by have q := k _ G R H g .refl (.bl (false ^^ PyData.eqv d d')); rw [Bool.false_xor] at q; exact q⟩
    · cases e
  · cases e
theorem o2_ne : Op2 K (rNeD K) gNe .fz := by
  intro G R H h x y vx vy z Q g lx ly e k
  unfold gNe gEqB at e
  split at e
  · rename_i d d' e1 e2
    split at e
    · rename_i sh
      rw [Bool.and_eq_true] at sh
      cases e
      exact ⟨d, d', lx.dp g e1, ly.dp g e2, sh.1, sh.2, by have q := k _ G R H g .refl (.bl (true ^^ PyData.eqv d d')); rw [Bool.true_xor] at q; exact q⟩
    · cases e
  · cases e
end
/-! ### is None -/
def isNon : T → Bool
  | .non => true
  | _ => false
def gIsN (neg : Bool) : G2
  | x, .non, _ => some (.bl (neg ^^ isNon x))
  | _, _, _ => none
section
variable {K : PySem.W.Frag} {G : Hp} {R : List Addr} {H : Hp}
theorem Live.isNon {t : T} {v : V} (r : Live K G R H t v) : decide (v = .non) = isNon t := by
  rcases r with r | ⟨ts, a, xs, rfl, rfl, _⟩
  · cases r <;> simp [GB.isNon]
  · simp [GB.isNon]
theorem o2_isN : Op2 K (fun x y H Q => y = .non ∧ Q (.bl (decide (x = .non))) H) (gIsN false) .fz := by
  intro G R H h x y vx vy z Q g lx ly e k
  unfold gIsN at e
  split at e
  · cases e
    refine ⟨ly.non, ?_⟩
    rw [lx.isNon]
    have q := k _ G R H g .refl (.bl (false ^^ GB.isNon x))
    rw [Bool.false_xor] at q; exact q
  · cases e
theorem o2_notN : Op2 K (fun x y H Q => y = .non ∧ Q (.bl (!decide (x = .non))) H) (gIsN true) .fz := by
  intro G R H h x y vx vy z Q g lx ly e k
  unfold gIsN at e
  split at e
  · cases e
    refine ⟨ly.non, ?_⟩
    rw [lx.isNon]
    have q := k _ G R H g .refl (.bl (true ^^ GB.isNon x))
    rw [Bool.true_xor] at q; exact q
  · cases e
end
/-! ### in -/
def flatT : T → Option V
  | .non => some .non
  | .bl b => some (.bl b)
  | .int i => some (.int i)
  | .str s => some (.str s)
  | _ => none
def flatL : List T → Option (List V)
  | [] => some []
  | t :: ts => match flatT t, flatL ts with
    | some v, some vs => some (v :: vs)
    | _, _ => none
def asSeq (h : IH) (t : T) : Option (List T) :=
  match t with
  | .tup ts => some ts
  | t => asL h t
def gIn (neg : Bool) : G2 := fun x y h =>
  match x, y with
  | .str ⟨⟨[c]⟩⟩, .str z => some (.bl (neg ^^ decide (c ∈ z.cps.toList)))
  | x, y => match flatT x, (asSeq h y).bind flatL with
    | some v, some vs => some (.bl (neg ^^ inV v vs))
    | _, _ => none
section
variable {K : PySem.W.Frag} {G : Hp} {R : List Addr} {H : Hp} {h : IH}
theorem flatT_live {t : T} {v w : V} (r : Live K G R H t v) (e : flatT t = some w) : v = w ∧ flatV w = true := by
  rcases r with r | ⟨ts, a, xs, rfl, rfl, _⟩
  · cases r <;> cases e <;> exact ⟨rfl, rfl⟩
  · cases e
theorem flatL_rp : ∀ {ts : List T} {vs ws : List V}, RpL K G R ts vs → flatL ts = some ws → vs = ws ∧ ws.all flatV = true
  | _, _, _, .nil, e => by cases e; exact ⟨rfl, rfl⟩
  | _, _, _, .cons (t := t) (ts := ts) r k, e => by
    have e' : (match flatT t, flatL ts with | some v, some vs => some (v :: vs) | _, _ => none) = some _ := e
    split at e'
    · rename_i v vs e1 e2
      cases e'
      obtain ⟨h1, h2⟩ := flatT_live (H := G) (.inl r) e1
      obtain ⟨h3, h4⟩ := flatL_rp k e2
      exact ⟨by rw [h1, h3], by rw [List.all_cons, h2, h4]; rfl⟩
    · cases e'
theorem Live.asSeq (g : Gd K G R H h) {t : T} {ts : List T} {v : V} (r : Live K G R H t v) (e : asSeq h t = some ts) : ∃ a xs, v = .ref a ∧ (SqL K H a xs ∨ SqT K H a xs) ∧ RpL K G R ts xs := by
  unfold GB.asSeq at e
  split at e
  · cases e
    obtain ⟨a, xs, h1, h2, h3⟩ := r.asT g rfl
    exact ⟨a, xs, h1, .inr (g.sqT h2), h3⟩
  · obtain ⟨a, xs, h1, h2, h3⟩ := r.asL g e
    exact ⟨a, xs, h1, .inl h2, h3⟩
def rInA (K : PySem.W.Frag) (neg : Bool) : R2 := fun x y H Q => (∃ (c : Nat) (z : Str), x = .str ⟨#[c]⟩ ∧ y = .str z ∧ Q (.bl (if neg then !decide (c ∈ z.cps.toList) else decide (c ∈ z.cps.toList))) H) ∨ rIn K neg x y H Q
theorem op_inA {X : Cx} : OpR X (compareOp .In) (rInA X.K false) := op_in_sign.or op_in_seq
theorem op_notInA {X : Cx} : OpR X (compareOp .NotIn) (rInA X.K true) := op_notIn_sign.or op_notIn_seq
theorem xor_if (n b : Bool) : (n ^^ b) = (if n then !b else b) := by cases n <;> cases b <;> rfl
theorem o2_in {n : Bool} : Op2 K (rInA K n) (gIn n) .fz := by
  intro G R H h x y vx vy z Q g lx ly e k
  unfold gIn at e
  split at e
  · rename_i c zs
    cases e
    refine .inl ⟨c, zs, lx.str, ly.str, ?_⟩
    rw [← xor_if]
    exact k _ G R H g .refl (.bl _)
  · split at e
    · rename_i v vs e1 e2
      cases e
      obtain ⟨h1, h2⟩ := flatT_live lx e1
      obtain ⟨ts, e3, e4⟩ := Option.bind_eq_some_iff.mp e2
      obtain ⟨a, xs, h3, h4, h5⟩ := ly.asSeq g e3
      obtain ⟨h6, h7⟩ := flatL_rp h5 e4
      subst h1 h6
      refine .inr ⟨a, xs, h3, h4, h2, h7, ?_⟩
      rw [← xor_if]
      exact k _ G R H g .refl (.bl _)
    · cases e
end
/-! ### subscripts -/
def gIx : G2 := fun x y h =>
  match x, y with
  | .str z, .int i => if z.length ≤ sizeLine then (atI z.cps.toList i).map fun c => .str ⟨#[c]⟩ else none
  | x, .int i => (asSeq h x).bind fun ts => atI ts i
  | _, _ => none
section
variable {K : PySem.W.Frag} {G : Hp} {R : List Addr} {H : Hp} {h : IH}
theorem rpl_at {ts : List T} {xs : List V} {i : Int} {t : T} (r : RpL K G R ts xs) (e : atI ts i = some t) : ∃ v, atI xs i = some v ∧ Rp K G R t v := by
  unfold atI at e ⊢
  obtain ⟨j, h1, h2⟩ := Option.bind_eq_some_iff.mp e
  obtain ⟨v, h3, h4⟩ := r.get h2
  rw [← r.len, h1]
  exact ⟨v, h3, h4⟩
theorem o2_ix : Op2 K (rIx K) gIx .fz := by
  intro G R H h x y vx vy z Q g lx ly e k
  unfold gIx at e
  split at e
  · rename_i zs i
    split at e
    · rename_i hl
      obtain ⟨c, h1, rfl⟩ := Option.map_eq_some_iff.mp e
      exact .inr (.inr ⟨zs, i, c, lx.str, ly.int, hl, h1, k _ G R H g .refl (.str _)⟩)
    · cases e
  · rename_i i _
    obtain ⟨ts, h1, h2⟩ := Option.bind_eq_some_iff.mp e
    obtain ⟨a, xs, h3, h4, h5⟩ := lx.asSeq g h1
    obtain ⟨v, h6, h7⟩ := rpl_at h5 h2
    rcases h4 with h4 | h4
    · exact .inl ⟨a, xs, i, v, h3, ly.int, h4, h6, k _ G R H g .refl h7⟩
    · exact .inr (.inl ⟨a, xs, i, v, h3, ly.int, h4, h6, k _ G R H g .refl h7⟩)
  · cases e
end
/-! ### signs -/
def gNeg : G1
  | .int i, _ => some (.int (-i))
  | _, _ => none
section
variable {K : PySem.W.Frag}
theorem o1_neg : Op1 K (rU fun i => .int (-i)) gNeg .fz := by
  intro G R H h x vx z Q g lx e k
  unfold gNeg at e
  split at e
  · cases e; exact ⟨_, lx.int, k _ G R H g .refl (.int _)⟩
  · cases e
end
end GB
namespace GB
open PySem PySem.Spec PyProof.Rows L2

/-! ### arguments, displays -/
def aNil : SA := fun _ h => .ok [] h
def aCons (f : SE) (g : SA) : SA := fun τ h => (f τ h).bind fun t h1 => (g τ h1).bind fun ts h2 => .ok (t :: ts) h2
def eTup (f : SA) : SE := fun τ h => (f τ h).bind fun ts h1 => if ts.length ≤ sizeLine then .ok (.tup ts) h1 else .no
def eLst (f : SA) : SE := fun τ h => (f τ h).bind fun ts h1 => if ts.length ≤ sizeLine then .ok (.lst ts) h1 else .no
def eBox (f : SA) : SE := fun τ h => (f τ h).bind fun ts h1 => if ts.length ≤ sizeLine then .ok (.box h1.length) (h1 ++ [.lst ts]) else .no
section
variable {X : Cx} {E : WX} {lin : List Nat} {kd k1 k2 k3 : Kd} {e a b c : Expr} {es rest : List Expr} {fa fb fc : SE} {fs : SA} {pos : Pos}
theorem pab_nil : PAB X E lin [] aNil := impA pa_nil fun σ H Q ⟨G, R, τ, h, N0, g, fr, o⟩ => o G R H g .refl [] .nil
theorem pab_cons (ha : PEB X E lin .fz a fa) (hr : PAB X E lin es fs) (hs : starEach (a :: es) X.env = (false, eval a X.env) :: starEach es X.env := by rfl) : PAB X E lin (a :: es) (aCons fa fs) := impA (pa_cons ha hr hs) fun σ H Q ⟨G, R, τ, h, N0, gd, fr, o⟩ => by
  refine lE.then gd fr o fun x vx h1 G1 R1 H1 g1 e1 f1 r1 o1 => ?_
  refine lA.then g1 f1 o1 fun ts vs h2 G2 R2 H2 g2 e2 f2 r2 o2 => ?_
  exact o2 G2 R2 H2 g2 .refl _ (.cons (e2.rp r1) r2)
theorem pb_tup {x1} (h : PAB X E lin es fs) : PEB X E lin .fz (.Tuple es x1 pos) (eTup fs) := impE (pe_tup h) fun σ H Q ⟨G, R, τ, h, N0, gd, fr, o⟩ => by
  refine lA.then gd fr o fun ts vs h1 G1 R1 H1 g1 e1 f1 r1 o1 => ?_
  split at o1
  · rename_i hl
    refine ⟨by rw [← r1.len]; exact hl, fun p hp => ?_⟩
    obtain ⟨g2, e2⟩ := g1.newG (o := .tup vs) hp
    exact o1 _ _ _ g2 e2 _ (.tup (SqT.of upd_same) (e2.rpl r1))
  · exact o1.elim
theorem pb_lst (h : PAB X E lin es fs) : PEB X E lin .own (.List es pos) (eLst fs) := impE (pe_lst h) fun σ H Q ⟨G, R, τ, h, N0, gd, fr, o⟩ => by
  refine lA.then gd fr o fun ts vs h1 G1 R1 H1 g1 e1 f1 r1 o1 => ?_
  split at o1
  · rename_i hl
    refine ⟨by rw [← r1.len]; exact hl, fun p hp => ?_⟩
    obtain ⟨g2, e2, n, m⟩ := g1.newO (o := .lst vs) hp
    exact o1 _ _ _ g2 e2 _ ⟨ts, p, vs, rfl, rfl, upd_same, m, n, e1.free g1 hp, e2.rpl r1⟩
  · exact o1.elim
theorem Gd.newB {K : PySem.W.Frag} {G : Hp} {R : List Addr} {H : Hp} {h : IH} (g : Gd K G R H h) {p : Addr} {ts : List T} {vs : List V} (n : H p = none) (r : RpL K G R ts vs) :
    Gd K G (R ++ [p]) (upd H p (.lst vs)) (h ++ [.lst ts]) ∧ Ext G R H G (R ++ [p]) (upd H p (.lst vs)) := by
  obtain ⟨g2, e2, nG, m⟩ := g.newO (o := .lst vs) n
  refine ⟨⟨g2.same, fun a ma => ?_, ?_, by simp [g.len], fun i a c e1 e3 => ?_⟩, ⟨e2.same, List.prefix_append _ _, e2.kept, e2.gnew, fun b mb => ?_⟩⟩
  · rcases List.mem_append.mp ma with ma | ma
    · exact g.off a ma
    · rw [List.mem_singleton.mp ma]; exact nG
  · rw [List.nodup_append]
    refine ⟨g.nd, by simp, fun x mx y my => ?_⟩
    rw [List.mem_singleton.mp my]
    exact fun z => m (z ▸ mx)
  · by_cases hi : i < R.length
    · rw [List.getElem?_append_left hi] at e1
      rw [List.getElem?_append_left (by rw [← g.len]; exact hi)] at e3
      have q := g2.cell i a c e1 e3
      cases c with
      | lst us =>
        obtain ⟨xs, h1, h2⟩ := q
        exact ⟨xs, h1, h2.mono (fun _ _ e => e) (List.prefix_append _ _)⟩
    · have hi2 : i = R.length := by
        have z := (List.getElem?_eq_some_iff.mp e1).1
        rw [List.length_append, List.length_singleton] at z
        omega
      subst hi2
      rw [List.getElem?_append_right (Nat.le_refl _), Nat.sub_self] at e1
      rw [g.len, List.getElem?_append_right (Nat.le_refl _), Nat.sub_self] at e3
      cases e1
      cases e3
      exact ⟨vs, upd_same, r.mono (fun _ _ e => e) (List.prefix_append _ _)⟩
  · rcases List.mem_append.mp mb with mb | mb
    · exact .inl mb
    · rw [List.mem_singleton.mp mb]; exact .inr n
theorem pb_box (h : PAB X E lin es fs) : PEB X E lin .fz (.List es pos) (eBox fs) := impE (pe_lst h) fun σ H Q ⟨G, R, τ, h, N0, gd, fr, o⟩ => by
  refine lA.then gd fr o fun ts vs h1 G1 R1 H1 g1 e1 f1 r1 o1 => ?_
  split at o1
  · rename_i hl
    refine ⟨by rw [← r1.len]; exact hl, fun p hp => ?_⟩
    obtain ⟨g2, e2⟩ := g1.newB hp r1
    exact o1 _ _ _ g2 e2 _ (.box (by rw [← g1.len, List.getElem?_append_right (Nat.le_refl _), Nat.sub_self]; rfl))
  · exact o1.elim

/-! ### tests -/
def sOf (f : SE) : SB := fun τ h => (f τ h).bind fun x h1 =>
  match x with
  | .bl b => .ok b h1
  | _ => .no
theorem lB_of {f : SE} (σ : L2.St) (H : Hp) (Q : Bool → Hp → Prop) : lB X.K X.mg E lin (sOf f) σ H Q → lE X.K X.mg E lin .any f σ H (fun x H' => ∃ k, x = .bl k ∧ Q k H') := fun ⟨G, R, τ, h, N0, gd, fr, o⟩ => by
  refine lE.then gd fr o fun x vx h1 G1 R1 H1 g1 e1 f1 r1 o1 => ?_
  split at o1
  · rename_i b
    exact ⟨b, Live.bl r1, o1 G1 R1 H1 g1 .refl⟩
  · exact o1.elim
theorem lE_any {f : SE} (σ : L2.St) (H : Hp) (Q : VK) : lE X.K X.mg E lin .any f σ H Q → lE X.K X.mg E lin kd f σ H Q := fun ⟨G, R, τ, h, N0, gd, fr, o⟩ => by
  refine ⟨G, R, τ, h, N0, gd, fr, ?_⟩
  cases q : f τ h with
  | ok t h' => rw [q] at o; exact fun G' R' H' g' e' v r => o G' R' H' g' e' v (Res.live r)
  | exc x h' => rw [q] at o; exact o
  | no => rw [q] at o; exact o
theorem two_any {r : R2} {g : G2} (hg : Op2 X.K r g kd) (σ : L2.St) (H : Hp) (Q : VK) (h : lE X.K X.mg E lin .any (eBin g fa fb) σ H Q) : tOp r (lE X.K X.mg E lin k1 fa) (lE X.K X.mg E lin k2 fb) σ H Q :=
  two hg σ H Q (lE_any σ H Q h)
theorem ptb_cmp {op : CmpOp} {r : R2} {g : G2} (ho : OpR X (compareOp op) r) (hg : Op2 X.K r g kd) (hm : behindInMarks op b = false) (ha : PEB X E lin k1 a fa) (hb : PEB X E lin k2 b fb) : PTB X E lin (.Compare a [op] [b] pos) (sOf (eBin g fa fb)) :=
  impT (pt_cmpR ho ha hb hm) fun σ H Q h => two_any hg σ H _ (lB_of σ H Q h)
/-- an expression that gives a truth -/
theorem ptb_val (ha : PEB X E lin kd a fa) (he : ∀ whole, isTrue a X.env whole = (do let v ← whole; standAt a.pos; holding [v] (truthy v)) := by intro _; rfl) : PTB X E lin a (sOf fa) :=
  impT (pt_val ha he) fun σ H Q h => lE_any σ H _ (lB_of σ H Q h)
def PWB (X : Cx) (E : WX) (lin : List Nat) (e : Expr) (f : SB) : Prop := PW X e (lB X.K X.mg E lin f)
def sAnd (f g : SB) : SB := fun τ h => (f τ h).bind fun b h1 => if b = true then g τ h1 else .ok false h1
def sOr (f g : SB) : SB := fun τ h => (f τ h).bind fun b h1 => if b = true then .ok true h1 else g τ h1
def sNot (f : SB) : SB := fun τ h => (f τ h).bind fun b h1 => .ok (!b) h1
variable {sa sb sc : SB}
theorem pwb_and1 (ha : PTB X E lin a sa) : PWB X E lin (.BoolOp .And [a] pos) sa := pw_and1 ha
theorem pwb_or1 (ha : PTB X E lin a sa) : PWB X E lin (.BoolOp .Or [a] pos) sa := pw_or1 ha
theorem impW {X : Cx} {e : Expr} {t t' : TT} (h : PW X e t) (w : ∀ σ H Q, t' σ H Q → t σ H Q) : PW X e t' := ⟨fun wh pins s σ H Q I q => h.run wh pins s σ H Q I (w σ H Q q)⟩
theorem pwb_and (ha : PTB X E lin a sa) (hb : PWB X E lin (.BoolOp .And (b :: rest) pos) sb) : PWB X E lin (.BoolOp .And (a :: b :: rest) pos) (sAnd sa sb) := impW (pw_and ha hb) fun σ H Q ⟨G, R, τ, h, N0, gd, fr, o⟩ => by
  refine lB.then gd fr o fun x h1 G1 R1 H1 g1 e1 f1 o1 => ?_
  cases x with
  | true => exact ⟨G1, R1, τ, h1, N0, g1, f1, o1⟩
  | false => exact o1 G1 R1 H1 g1 .refl
theorem pwb_or (ha : PTB X E lin a sa) (hb : PWB X E lin (.BoolOp .Or (b :: rest) pos) sb) : PWB X E lin (.BoolOp .Or (a :: b :: rest) pos) (sOr sa sb) := impW (pw_or ha hb) fun σ H Q ⟨G, R, τ, h, N0, gd, fr, o⟩ => by
  refine lB.then gd fr o fun x h1 G1 R1 H1 g1 e1 f1 o1 => ?_
  cases x with
  | false => exact ⟨G1, R1, τ, h1, N0, g1, f1, o1⟩
  | true => exact o1 G1 R1 H1 g1 .refl
theorem pwb_t (h : PWB X E lin a sa) : PTB X E lin a sa := h.pt
theorem ptb_not (ha : PTB X E lin a sa) : PTB X E lin (.UnaryOp .Not a pos) (sNot sa) := impT (pt_not ha) fun σ H Q ⟨G, R, τ, h, N0, gd, fr, o⟩ => by
  refine lB.then gd fr o fun x h1 G1 R1 H1 g1 e1 f1 o1 => ?_
  exact o1 G1 R1 H1 g1 .refl
/-! ### and, or, not, if as values -/
def eAnd (f g : SE) : SE := fun τ h => (sOf f τ h).bind fun b h1 => if b = true then g τ h1 else .ok (.bl false) h1
def eOr (f g : SE) : SE := fun τ h => (sOf f τ h).bind fun b h1 => if b = true then .ok (.bl true) h1 else g τ h1
def eNot (f : SE) : SE := fun τ h => (sOf f τ h).bind fun b h1 => .ok (.bl (!b)) h1
def eIf (c : SB) (f g : SE) : SE := fun τ h => (c τ h).bind fun b h1 => if b = true then f τ h1 else g τ h1
theorem lE_of {f : SE} {α : Type} {G : Hp} {R : List Addr} {τ : Ev} {h : IH} {N0 : Addr → Prop} {σ : L2.St} {H : Hp} {Q : VK} {k : Bool → IH → Rs α} {P : α → Hp → List Addr → Hp → Prop} (gd : Gd X.K G R H h) (fr : Fr X.K lin G R H τ σ N0) (o : Out X.K X.mg (fun c d H' => E c d σ H') G R H ((sOf f τ h).bind k) P)
    (hq : ∀ b h1 G1 R1 H1, Gd X.K G1 R1 H1 h1 → Ext G R H G1 R1 H1 → Fr X.K lin G1 R1 H1 τ σ N0 → Out X.K X.mg (fun c d H' => E c d σ H') G1 R1 H1 (k b h1) P → Q (.bl b) H1) : lE X.K X.mg E lin kd f σ H Q := by
  refine ⟨G, R, τ, h, N0, gd, fr, ?_⟩
  unfold sOf at o
  cases e : f τ h with
  | ok t h1 =>
    rw [e] at o
    intro G1 R1 H1 g1 e1 v r
    have r' := Res.live r
    cases t with
    | bl b => rw [Live.bl r']; exact hq b h1 G1 R1 H1 g1 e1 (fr.ext e1) (Out.on (h := h) gd e1 o)
    | _ => exact False.elim o
  | exc x h1 => rw [e] at o; exact o
  | no => rw [e] at o; exact o
theorem pb_one {op} (h : PEB X E lin kd a fa) : PEB X E lin kd (.BoolOp op [a] pos) fa := pe_one h
theorem pb_and (ha : PEB X E lin k1 a fa) (hb : PEB X E lin .fz (.BoolOp .And (b :: rest) pos) fb) : PEB X E lin .fz (.BoolOp .And (a :: b :: rest) pos) (eAnd fa fb) := impE (pe_and ha hb) fun σ H Q ⟨G, R, τ, h, N0, gd, fr, o⟩ => by
  refine lE_of gd fr o fun x h1 G1 R1 H1 g1 e1 f1 o1 => ⟨x, rfl, ?_⟩
  cases x with
  | true => exact ⟨G1, R1, τ, h1, N0, g1, f1, o1⟩
  | false => exact o1 G1 R1 H1 g1 .refl _ (.bl false)
theorem pb_or (ha : PEB X E lin k1 a fa) (hb : PEB X E lin .fz (.BoolOp .Or (b :: rest) pos) fb) : PEB X E lin .fz (.BoolOp .Or (a :: b :: rest) pos) (eOr fa fb) := impE (pe_or ha hb) fun σ H Q ⟨G, R, τ, h, N0, gd, fr, o⟩ => by
  refine lE_of gd fr o fun x h1 G1 R1 H1 g1 e1 f1 o1 => ⟨x, rfl, ?_⟩
  cases x with
  | false => exact ⟨G1, R1, τ, h1, N0, g1, f1, o1⟩
  | true => exact o1 G1 R1 H1 g1 .refl _ (.bl true)
theorem pb_not (ha : PEB X E lin k1 a fa) : PEB X E lin .fz (.UnaryOp .Not a pos) (eNot fa) := impE (pe_not ha) fun σ H Q ⟨G, R, τ, h, N0, gd, fr, o⟩ => by
  refine lE_of gd fr o fun x h1 G1 R1 H1 g1 e1 f1 o1 => ⟨x, rfl, ?_⟩
  exact o1 G1 R1 H1 g1 .refl _ (.bl _)
theorem pb_if (hc : PTB X E lin c sc) (ha : PEB X E lin kd a fa) (hb : PEB X E lin kd b fb) : PEB X E lin kd (.IfExp c a b pos) (eIf sc fa fb) := impE (pe_ifExp hc ha hb) fun σ H Q ⟨G, R, τ, h, N0, gd, fr, o⟩ => by
  refine lB.then gd fr o fun x h1 G1 R1 H1 g1 e1 f1 o1 => ?_
  have back : ∀ {f : SE}, Out X.K X.mg (fun c d H' => E c d σ H') G1 R1 H1 (f τ h1) (fun t G' R' H' => ∀ v, Res X.K kd H t v G' R' H' → Q v H') → lE X.K X.mg E lin kd f σ H1 Q := fun {f} o => by
    refine ⟨G1, R1, τ, h1, N0, g1, f1, ?_⟩
    cases q : f τ h1 with
    | ok t h' => rw [q] at o; exact fun G' R' H' g' e' v r => o G' R' H' g' e' v (Res.back g1 e1 r)
    | exc x h' => rw [q] at o; exact o
    | no => rw [q] at o; exact o
  cases x with
  | true => exact back o1
  | false => exact back o1
/-! ### a op1 b op2 c -/
def eChain (g1 g2 : G2) (a b c : SE) : SE := fun τ h => (a τ h).bind fun x h1 => (b τ h1).bind fun y h2 => (Rs.of (g1 x y h2) h2).bind fun z h3 =>
  match z with
  | .bl true => (c τ h3).bind fun w h4 => Rs.of (g2 y w h4) h4
  | .bl false => .ok (.bl false) h3
  | _ => .no
theorem chain_go {r r' : R2} {g g' : G2} (hg : Op2 X.K r g k1) (hg' : Op2 X.K r' g' kd) (σ : L2.St) (H : Hp) (Q : VK) (hb : ∀ k1 k2 : Kd, True) : lE X.K X.mg E lin .any (eChain g g' fa fb fc) σ H Q → tChain r r' (lE X.K X.mg E lin k1 fa) (lE X.K X.mg E lin k2 fb) (lE X.K X.mg E lin k3 fc) σ H Q := fun ⟨G, R, τ, h, N0, gd, fr, o⟩ => by
  refine lE.then gd fr o fun x vx h1 G1 R1 H1 g1 e1 f1 r1 o1 => ?_
  refine lE.then g1 f1 o1 fun y vy h2 G2 R2 H2 g2 e2 f2 r2 o2 => ?_
  cases q : g x y h2 with
  | none => rw [q] at o2; exact o2.elim
  | some z =>
    rw [q] at o2
    refine hg G2 R2 H2 h2 x y vx vy z _ g2 (Live.ext e2 (Res.live r1)) (Res.live r2) q fun v G3 R3 H3 g3 e3 r3 => ?_
    have o3 := Out.on (h := h2) g2 e3 o2
    have l3 := Res.live r3
    cases z with
    | bl b =>
      refine ⟨b, Live.bl l3, ?_⟩
      cases b with
      | false => exact o3 G3 R3 H3 g3 .refl _ (.inl (.bl false))
      | true =>
        refine lE.then g3 (f2.ext e3) o3 fun w vw h4 G4 R4 H4 g4 e4 f4 r4 o4 => ?_
        cases q4 : g' y w h4 with
        | none => rw [q4] at o4; exact o4.elim
        | some z4 =>
          rw [q4] at o4
          exact hg' G4 R4 H4 h4 y w vy vw z4 Q g4 (Live.ext e4 (Live.ext e3 (Res.live r2))) (Res.live r4) q4 fun v G' R' H' g' e' r' => o4 G' R' H' g' e' v (Res.live r')
    | _ => exact False.elim o3
theorem chain_goF {r r' : R2} {g g' : G2} (hg : Op2 X.K r g k1) (hg' : Op2 X.K r' g' .fz) (σ : L2.St) (H : Hp) (Q : VK) (hb : ∀ k1 k2 : Kd, True) : lE X.K X.mg E lin .fz (eChain g g' fa fb fc) σ H Q → tChain r r' (lE X.K X.mg E lin k1 fa) (lE X.K X.mg E lin k2 fb) (lE X.K X.mg E lin k3 fc) σ H Q := fun ⟨G, R, τ, h, N0, gd, fr, o⟩ => by
  refine lE.then gd fr o fun x vx h1 G1 R1 H1 g1 e1 f1 r1 o1 => ?_
  refine lE.then g1 f1 o1 fun y vy h2 G2 R2 H2 g2 e2 f2 r2 o2 => ?_
  cases q : g x y h2 with
  | none => rw [q] at o2; exact o2.elim
  | some z =>
    rw [q] at o2
    refine hg G2 R2 H2 h2 x y vx vy z _ g2 (Live.ext e2 (Res.live r1)) (Res.live r2) q fun v G3 R3 H3 g3 e3 r3 => ?_
    have o3 := Out.on (h := h2) g2 e3 o2
    have l3 := Res.live r3
    cases z with
    | bl b =>
      refine ⟨b, Live.bl l3, ?_⟩
      cases b with
      | false => exact o3 G3 R3 H3 g3 .refl _ (.bl false)
      | true =>
        refine lE.then g3 (f2.ext e3) o3 fun w vw h4 G4 R4 H4 g4 e4 f4 r4 o4 => ?_
        cases q4 : g' y w h4 with
        | none => rw [q4] at o4; exact o4.elim
        | some z4 =>
          rw [q4] at o4
          exact hg' G4 R4 H4 h4 y w vy vw z4 Q g4 (Live.ext e4 (Live.ext e3 (Res.live r2))) (Res.live r4) q4 fun v G' R' H' g' e' r' => o4 G' R' H' g' e' v r'
    | _ => exact False.elim o3
theorem pb_chain {op op' : CmpOp} {r r' : R2} {g g' : G2} (ho : OpR X (compareOp op) r) (hg : Op2 X.K r g k1) (ho' : OpR X (compareOp op') r') (hg' : Op2 X.K r' g' .fz) (ha : PEB X E lin k1 a fa) (hb : PEB X E lin k2 b fb) (hc : PEB X E lin k3 c fc)
    (hm : lastMarks [op, op'] [b, c] = false := by with_unfolding_all rfl) : PEB X E lin .fz (.Compare a [op, op'] [b, c] pos) (eChain g g' fa fb fc) :=
  impE (pe_chain ho ho' ha hb hc hm) fun σ H Q h => chain_goF hg hg' σ H Q (fun _ _ => trivial) h
theorem ptb_chain {op op' : CmpOp} {r r' : R2} {g g' : G2} (ho : OpR X (compareOp op) r) (hg : Op2 X.K r g k1) (ho' : OpR X (compareOp op') r') (hg' : Op2 X.K r' g' kd) (ha : PEB X E lin k1 a fa) (hb : PEB X E lin k2 b fb) (hc : PEB X E lin k3 c fc)
    (hm : lastMarks [op, op'] [b, c] = false := by with_unfolding_all rfl) : PTB X E lin (.Compare a [op, op'] [b, c] pos) (sOf (eChain g g' fa fb fc)) :=
  impT (pt_chain ho ho' ha hb hc hm) fun σ H Q h => chain_go hg hg' σ H _ (fun _ _ => trivial) (lB_of σ H Q h)
end

/-! ### slices -/
abbrev SO := Ev → IH → Rs (Option Int)
def oNone : SO := fun _ h => .ok none h
def oSome (f : SE) : SO := fun τ h => (f τ h).bind fun x h1 =>
  match x with
  | .int i => .ok (some i) h1
  | _ => .no
def lO (K : PySem.W.Frag) (mg : Str → Option Value) (E : WX) (lin : List Nat) (f : SO) : TO := fun σ H Q =>
  ∃ G R τ h N0, Gd K G R H h ∧ Fr K lin G R H τ σ N0 ∧ Out K mg (fun c d H' => E c d σ H') G R H (f τ h) fun b G' R' H' => Q b H'
def POB (X : Cx) (E : WX) (lin : List Nat) (e : Option Expr) (f : SO) : Prop := PO X e (lO X.K X.mg E lin f)
theorem impO {X : Cx} {e : Option Expr} {t t' : TO} (h : PO X e t) (w : ∀ σ H Q, t' σ H Q → t σ H Q) : PO X e t' := ⟨fun pins s σ H Q I q => h.run pins s σ H Q I (w σ H Q q)⟩
theorem lO.then {K : PySem.W.Frag} {mg : Str → Option Value} {E : WX} {lin : List Nat} {G : Hp} {R : List Addr} {H : Hp} {h : IH} {τ : Ev} {σ : L2.St} {N0 : Addr → Prop} {α : Type} {P : α → Hp → List Addr → Hp → Prop} {f : SO} {k : Option Int → IH → Rs α} {Q : Option Int → Hp → Prop} (g : Gd K G R H h) (fr : Fr K lin G R H τ σ N0) (o : Out K mg (fun c d H' => E c d σ H') G R H ((f τ h).bind k) P)
    (hq : ∀ b h1 G1 R1 H1, Gd K G1 R1 H1 h1 → Ext G R H G1 R1 H1 → Fr K lin G1 R1 H1 τ σ N0 → Out K mg (fun c d H' => E c d σ H') G1 R1 H1 (k b h1) P → Q b H1) : lO K mg E lin f σ H Q := by
  refine ⟨G, R, τ, h, N0, g, fr, ?_⟩
  cases e : f τ h with
  | ok t h1 =>
    rw [e] at o
    exact fun G1 R1 H1 g1 e1 => hq t h1 G1 R1 H1 g1 e1 (fr.ext e1) (Out.on (h := h) g e1 o)
  | exc x h1 => rw [e] at o; exact o
  | no => rw [e] at o; exact o
abbrev G3 := T → Option Int → Option Int → IH → Option T
def eSl (g : G3) (f : SE) (lo hi : SO) : SE := fun τ h => (f τ h).bind fun x h1 => (lo τ h1).bind fun l h2 => (hi τ h2).bind fun u h3 => Rs.of (g x l u h3) h3
def cutL {α : Type} (xs : List α) (lo hi : Option Int) : List α := (xs.drop (HT.sIx xs.length 0 lo)).take (HT.sIx xs.length xs.length hi - HT.sIx xs.length 0 lo)
def gSlL : G3 := fun x lo hi h => (asL h x).map fun ts => .lst (cutL ts lo hi)
def gSlT : G3
  | .tup ts, lo, hi, _ => some (.tup (cutL ts lo hi))
  | .str z, lo, hi, _ => if z.length ≤ sizeLine then some (.str (cutS z lo hi)) else none
  | _, _, _, _ => none
def Op3 (K : PySem.W.Frag) (r : V → Option Int → Option Int → Hp → VK → Prop) (g : G3) (kd : Kd) : Prop := ∀ (G : Hp) (R : List Addr) (H : Hp) (h : IH) (x : T) (vx : V) (lo hi : Option Int) (z : T) (Q : VK), Gd K G R H h → Live K G R H x vx → g x lo hi h = some z →
  (∀ v G' R' H', Gd K G' R' H' h → Ext G R H G' R' H' → Res K kd H z v G' R' H' → Q v H') → r vx lo hi H Q
section
variable {X : Cx} {E : WX} {lin : List Nat} {kd k1 k2 k3 : Kd} {e a b c : Expr} {lo hi : Option Expr} {fa fb fc : SE} {fl fh : SO} {pos p2 : Pos}
theorem pob_none : POB X E lin none oNone := impO po_none fun σ H Q ⟨G, R, τ, h, N0, g, fr, o⟩ => o G R H g .refl
theorem pob_some (ha : PEB X E lin kd a fa) : POB X E lin (some a) (oSome fa) := impO (po_some ha) fun σ H Q ⟨G, R, τ, h, N0, gd, fr, o⟩ => by
  refine lE.then gd fr o fun x vx h1 G1 R1 H1 g1 e1 f1 r1 o1 => ?_
  split at o1
  · rename_i i
    exact ⟨i, Live.int (Res.live r1), o1 G1 R1 H1 g1 .refl⟩
  · exact o1.elim
theorem pb_slice {r : V → Option Int → Option Int → Hp → VK → Prop} {g : G3} (hr : SlR X r) (hg : Op3 X.K r g kd) (ha : PEB X E lin k1 a fa) (hl : POB X E lin lo fl) (hu : POB X E lin hi fh) : PEB X E lin kd (.Subscript a (.Slice lo hi none p2) pos) (eSl g fa fl fh) := impE (pe_slice hr ha hl hu) fun σ H Q ⟨G, R, τ, h, N0, gd, fr, o⟩ => by
  refine lE.then gd fr o fun x vx h1 G1 R1 H1 g1 e1 f1 r1 o1 => ?_
  refine lO.then g1 f1 o1 fun l h2 G2 R2 H2 g2 e2 f2 o2 => ?_
  refine lO.then g2 f2 o2 fun u h3 G3 R3 H3 g3 e3 f3 o3 => ?_
  cases q : g x l u h3 with
  | none => rw [q] at o3; exact o3.elim
  | some z =>
    rw [q] at o3
    exact hg G3 R3 H3 h3 x vx l u z Q g3 (Live.ext e3 (Live.ext e2 (Res.live r1))) q fun v G' R' H' g' e' r' => o3 G' R' H' g' e' v (Res.back g3 ((e1.trans gd g2 e2).trans gd g3 e3) r')
theorem rpl_cut {K : PySem.W.Frag} {G : Hp} {R : List Addr} {ts : List T} {xs : List V} (r : RpL K G R ts xs) (lo hi : Option Int) : RpL K G R (cutL ts lo hi) (cutV xs lo hi) := by
  unfold cutL cutV
  rw [r.len]
  exact (r.drop _).take _
theorem o3_list {K : PySem.W.Frag} : Op3 K (rSlL K) gSlL .own := by
  intro G R H h x vx lo hi z Q g lx e k
  unfold gSlL at e
  obtain ⟨ts, e1, rfl⟩ := Option.map_eq_some_iff.mp e
  obtain ⟨a, xs, rfl, h1, h2⟩ := lx.asL g e1
  refine ⟨a, xs, rfl, h1, fun p np => ?_⟩
  obtain ⟨g2, e2, n, m⟩ := g.newO (o := .lst (cutV xs lo hi)) np
  exact k _ _ _ _ g2 e2 ⟨_, p, _, rfl, rfl, upd_same, m, n, np, e2.rpl (rpl_cut h2 lo hi)⟩
def rSlTS (K : PySem.W.Frag) : V → Option Int → Option Int → Hp → VK → Prop := fun x lo hi H Q => rSlA K x lo hi H Q ∨ rSlS x lo hi H Q
theorem sl_ts : SlR X (rSlTS X.K) := sl_tupA.or sl_str
theorem o3_ts {K : PySem.W.Frag} : Op3 K (rSlTS K) gSlT .fz := by
  intro G R H h x vx lo hi z Q g lx e k
  unfold gSlT at e
  split at e
  · cases e
    obtain ⟨a, xs, rfl, h1, h2⟩ := lx.asT g rfl
    refine .inl ⟨a, xs, rfl, g.sqT h1, fun ⟨w1, w2⟩ => ?_, fun _ p np => ?_⟩
    · have c : cutV xs lo hi = xs := by
        unfold cutV
        rw [w1, w2, List.drop_zero, Nat.sub_zero, List.take_length]
      exact k _ G R H g .refl (.tup (by rw [c]; exact h1) (rpl_cut h2 lo hi))
    · obtain ⟨g2, e2⟩ := g.newG (o := .tup (cutV xs lo hi)) np
      exact k _ _ _ _ g2 e2 (.tup (SqT.of upd_same) (e2.rpl (rpl_cut h2 lo hi)))
  · split at e
    · cases e
      exact .inr ⟨_, lx.str, by assumption, k _ G R H g .refl (.str _)⟩
    · cases e
  · cases e
end
end GB
namespace GB
open PySem PySem.Spec PyProof.Rows L2

/-! ### calls of built-ins -/
section
variable {X : Cx} {E : WX} {lin : List Nat} {kd k1 k2 k3 : Kd} {e a b c : Expr} {fa fb fc : SE} {pos p : Pos} {x : Str}
theorem pb_c1 {id : String} {r : List V → Hp → VK → Prop} {g : G1} (hc : CallR X (.builtin id) r) (hr : Op1 X.K (fun v => r [v]) g kd) (hg : Gl X x) (hm : X.mg x = none) (hv : bootBuiltins x = some (.builtin id)) (ha : PEB X E lin k1 a fa) (hn : x ≠ "__name__" := by decide) (hdb : (x == ("__debug__" : Str)) = false := by decide)
    (hs : starEach [a] X.env = (false, eval a X.env) :: starEach [] X.env := by rfl) (hpl : (backTo pos (starEach [] X.env)).any (·.1) = false := by rfl) : PEB X E lin kd (.Call (.Name x p) [a] [] pos) (eUn g fa) :=
  impE (pe_callB hc hg hm hv (pa_cons ha pa_nil hs) hn hdb hs hpl) fun σ H Q h => one hr σ H Q h
theorem pb_y1 {id : String} {r : List V → Hp → VK → Prop} {g : G1} (hc : CallR X (.type id) r) (hr : Op1 X.K (fun v => r [v]) g kd) (hg : Gl X x) (hm : X.mg x = none) (hv : bootBuiltins x = some (.type id)) (ha : PEB X E lin k1 a fa) (hn : x ≠ "__name__" := by decide) (hdb : (x == ("__debug__" : Str)) = false := by decide)
    (hs : starEach [a] X.env = (false, eval a X.env) :: starEach [] X.env := by rfl) (hpl : (backTo pos (starEach [] X.env)).any (·.1) = false := by rfl) : PEB X E lin kd (.Call (.Name x p) [a] [] pos) (eUn g fa) :=
  impE (pe_callTy hc hg hm hv (pa_cons ha pa_nil hs) hn hdb hs hpl) fun σ H Q h => one hr σ H Q h
theorem pb_c2 {id : String} {r : List V → Hp → VK → Prop} {g : G2} (hc : CallR X (.builtin id) r) (hr : Op2 X.K (fun v w => r [v, w]) g kd) (hg : Gl X x) (hm : X.mg x = none) (hv : bootBuiltins x = some (.builtin id)) (ha : PEB X E lin k1 a fa) (hb : PEB X E lin k2 b fb) (hn : x ≠ "__name__" := by decide) (hdb : (x == ("__debug__" : Str)) = false := by decide)
    (hs : starEach [a, b] X.env = (false, eval a X.env) :: starEach [b] X.env := by rfl) (hs2 : starEach [b] X.env = (false, eval b X.env) :: starEach [] X.env := by rfl) (hpl : (backTo pos (starEach [b] X.env)).any (·.1) = false := by rfl) : PEB X E lin kd (.Call (.Name x p) [a, b] [] pos) (eBin g fa fb) :=
  impE (pe_callB hc hg hm hv (pa_cons ha (pa_cons hb pa_nil hs2) hs) hn hdb hs hpl) fun σ H Q h => two hr σ H Q h
end
/-! #### len, abs, int, bool, str -/
def gLen : G1 := fun x h =>
  match x with
  | .str s => if s.length ≤ sizeLine then some (.int s.length) else none
  | x => (asSeq h x).map fun ts => .int ts.length
def gAbs : G1
  | .int i, _ => some (.int (i.natAbs : Int))
  | _, _ => none
def gInt : G1
  | .int i, _ => some (.int i)
  | .bl b, _ => some (.int (if b then 1 else 0))
  | .str s, _ => if s.length ≤ 640 then (PySem.intText? s).map T.int else none
  | _, _ => none
def gBool : G1
  | .int i, _ => some (.bl (i != 0))
  | .bl b, _ => some (.bl b)
  | _, _ => none
def gStr : G1
  | .int i, _ => if i.natAbs.log2 < 1920 then some (.str (toString i)) else none
  | .str s, _ => some (.str s)
  | _, _ => none
section
variable {K : PySem.W.Frag} {X : Cx}
theorem o1_len : Op1 K (fun v => (fun xs H Q => ∃ x n, xs = [x] ∧ LenV K x H n ∧ Q (.int n) H) [v]) gLen .fz := by
  intro G R H h x vx z Q g lx e k
  unfold gLen at e
  split at e
  · split at e
    · cases e
      exact ⟨vx, _, rfl, by rw [lx.str]; exact ⟨by assumption, rfl⟩, k _ G R H g .refl (.int _)⟩
    · cases e
  · obtain ⟨ts, e1, rfl⟩ := Option.map_eq_some_iff.mp e
    obtain ⟨a, xs, rfl, h1, h2⟩ := lx.asSeq g e1
    refine ⟨.ref a, ts.length, rfl, ?_, k _ G R H g .refl (.int _)⟩
    rcases h1 with h1 | h1
    · exact .inl ⟨xs, h1, h2.len⟩
    · exact .inr ⟨xs, h1, h2.len⟩
theorem o1_abs : Op1 K (fun v => (fun (xs : List V) H Q => ∃ i, xs = [.int i] ∧ Q (.int (if i < 0 then -i else i)) H) [v]) gAbs .fz := by
  intro G R H h x vx z Q g lx e k
  unfold gAbs at e
  split at e
  · rename_i i
    cases e
    refine ⟨i, by rw [lx.int], ?_⟩
    have q := k _ G R H g .refl (.int _)
    have e : (if i < 0 then -i else i) = (i.natAbs : Int) := by split <;> omega
    rw [e]; exact q
  · cases e
theorem call_intA : CallR X (.type "int") (fun xs H Q => ((∃ i, xs = [.int i] ∧ Q (.int i) H) ∨ ∃ k, xs = [.bl k] ∧ Q (.int (if k then 1 else 0)) H) ∨ ∃ a n, xs = [.str a] ∧ PySem.intText? a = some n ∧ a.length ≤ 640 ∧ Q (.int n) H) := call_int1.or call_int_str
theorem o1_int : Op1 K (fun v => (fun (xs : List V) H Q => ((∃ i, xs = [.int i] ∧ Q (.int i) H) ∨ ∃ k, xs = [.bl k] ∧ Q (.int (if k then 1 else 0)) H) ∨ ∃ a n, xs = [.str a] ∧ PySem.intText? a = some n ∧ a.length ≤ 640 ∧ Q (.int n) H) [v]) gInt .fz := by
  intro G R H h x vx z Q g lx e k
  unfold gInt at e
  split at e
  · cases e; exact .inl (.inl ⟨_, by rw [lx.int], k _ G R H g .refl (.int _)⟩)
  · cases e; exact .inl (.inr ⟨_, by rw [lx.bl], k _ G R H g .refl (.int _)⟩)
  · split at e
    · obtain ⟨n, e1, rfl⟩ := Option.map_eq_some_iff.mp e
      exact .inr ⟨_, n, by rw [lx.str], e1, by assumption, k _ G R H g .refl (.int _)⟩
    · cases e
  · cases e
theorem o1_bool : Op1 K (fun v => (fun (xs : List V) H Q => (∃ i, xs = [.int i] ∧ Q (.bl (i != 0)) H) ∨ ∃ k, xs = [.bl k] ∧ Q (.bl k) H) [v]) gBool .fz := by
  intro G R H h x vx z Q g lx e k
  unfold gBool at e
  split at e
  · cases e; exact .inl ⟨_, by rw [lx.int], k _ G R H g .refl (.bl _)⟩
  · cases e; exact .inr ⟨_, by rw [lx.bl], k _ G R H g .refl (.bl _)⟩
  · cases e
theorem call_strA : CallR X (.type "str") (fun xs H Q => (∃ i, xs = [.int i] ∧ i.natAbs.log2 < 1920 ∧ Q (.str (toString i)) H) ∨ ∃ a, xs = [.str a] ∧ Q (.str a) H) := call_str_int.or SkE.call_str_str
theorem o1_str : Op1 K (fun v => (fun (xs : List V) H Q => (∃ i, xs = [.int i] ∧ i.natAbs.log2 < 1920 ∧ Q (.str (toString i)) H) ∨ ∃ a, xs = [.str a] ∧ Q (.str a) H) [v]) gStr .fz := by
  intro G R H h x vx z Q g lx e k
  unfold gStr at e
  split at e
  · split at e
    · cases e; exact .inl ⟨_, by rw [lx.int], by assumption, k _ G R H g .refl (.str _)⟩
    · cases e
  · cases e; exact .inr ⟨_, by rw [lx.str], k _ G R H g .refl (.str _)⟩
  · cases e
end
/-! #### tuple, list -/
def gTuple : G1 := fun x h => (asSeq h x).map T.tup
def gList : G1 := fun x h => (asSeq h x).map T.lst
section
variable {K : PySem.W.Frag} {X : Cx}
theorem o1_tuple : Op1 K (fun v => (fun (xs : List V) H Q => ∃ p ys, xs = [.ref p] ∧ ((SqL K H p ys ∧ ∀ l, H l = none → Q (.ref l) (upd H l (.tup ys))) ∨ (SqT K H p ys ∧ Q (.ref p) H))) [v]) gTuple .fz := by
  intro G R H h x vx z Q g lx e k
  unfold gTuple at e
  obtain ⟨ts, e1, rfl⟩ := Option.map_eq_some_iff.mp e
  unfold asSeq at e1
  split at e1
  · cases e1
    obtain ⟨a, xs, rfl, h1, h2⟩ := lx.asT g rfl
    exact ⟨a, xs, rfl, .inr ⟨g.sqT h1, k _ G R H g .refl (.tup h1 h2)⟩⟩
  · obtain ⟨a, xs, rfl, h1, h2⟩ := lx.asL g e1
    refine ⟨a, xs, rfl, .inl ⟨h1, fun l nl => ?_⟩⟩
    obtain ⟨g2, e2⟩ := g.newG (o := .tup xs) nl
    exact k _ _ _ _ g2 e2 (.tup (SqT.of upd_same) (e2.rpl h2))
theorem o1_list : Op1 K (fun v => (fun (xs : List V) H Q => ∃ p ys, xs = [.ref p] ∧ (SqL K H p ys ∨ SqT K H p ys) ∧ ∀ l, H l = none → Q (.ref l) (upd H l (.lst ys))) [v]) gList .own := by
  intro G R H h x vx z Q g lx e k
  unfold gList at e
  obtain ⟨ts, e1, rfl⟩ := Option.map_eq_some_iff.mp e
  obtain ⟨a, xs, rfl, h1, h2⟩ := lx.asSeq g e1
  refine ⟨a, xs, rfl, h1, fun l nl => ?_⟩
  obtain ⟨g2, e2, n, m⟩ := g.newO (o := .lst xs) nl
  exact k _ _ _ _ g2 e2 ⟨ts, l, xs, rfl, rfl, upd_same, m, n, nl, e2.rpl h2⟩
end
/-! #### max, min, sum, any, all -/
def gMax2 : G2 := gI okAll fun i j => .int (if j > i then j else i)
def gMin2 : G2 := gI okAll fun i j => .int (if j < i then j else i)
def intsL : List T → Option (List Int)
  | [] => some []
  | .int i :: ts => (intsL ts).map (i :: ·)
  | _ :: _ => none
def truT : T → Option Bool
  | .bl b => some b
  | .int i => some (i != 0)
  | _ => none
def truL : List T → Option (List Bool)
  | [] => some []
  | t :: ts => match truT t, truL ts with
    | some b, some bs => some (b :: bs)
    | _, _ => none
def maxI : List Int → Option Int
  | [] => none
  | i :: is => some (is.foldl max i)
def gMax : G1 := fun x h => ((asL h x).bind intsL).bind fun is => (maxI is).map T.int
def gSum : G1 := fun x h => ((asL h x).bind intsL).map fun is => .int is.sum
def gAny : G1 := fun x h => ((asL h x).bind truL).map fun is => .bl (is.any id)
def gAll : G1 := fun x h => ((asL h x).bind truL).map fun is => .bl (is.all id)
theorem foldl_max_ge : ∀ (is : List Int) (i : Int), i ≤ is.foldl max i ∧ ∀ j ∈ is, j ≤ is.foldl max i
  | [], i => ⟨Int.le_refl _, fun j m => absurd m (by simp)⟩
  | x :: r, i => by
    obtain ⟨h1, h2⟩ := foldl_max_ge r (max i x)
    refine ⟨by show i ≤ r.foldl max (max i x); omega, fun j m => ?_⟩
    show j ≤ r.foldl max (max i x)
    rcases List.mem_cons.mp m with rfl | m
    · omega
    · exact h2 j m
theorem foldl_max_mem : ∀ (is : List Int) (i : Int), is.foldl max i = i ∨ is.foldl max i ∈ is
  | [], i => .inl rfl
  | x :: r, i => by
    rw [List.foldl_cons]
    rcases foldl_max_mem r (max i x) with h | h
    · by_cases c : i ≤ x
      · right; rw [h]
        have : max i x = x := by omega
        rw [this]; exact List.mem_cons_self
      · left; rw [h]; omega
    · exact .inr (List.mem_cons_of_mem _ h)
theorem maxI_eq {is : List Int} {m n : Int} (e : maxI is = some n) (h1 : m ∈ is) (h2 : ∀ y ∈ is, y ≤ m) : m = n := by
  cases is with
  | nil => cases e
  | cons i r =>
    have e' : r.foldl max i = n := Option.some.inj e
    obtain ⟨g1, g2⟩ := foldl_max_ge r i
    have g3 := foldl_max_mem r i
    have a1 : m ≤ r.foldl max i := by
      rcases List.mem_cons.mp h1 with q | q
      · rw [q]; exact g1
      · exact g2 m q
    have a2 : r.foldl max i ≤ m := by
      rcases g3 with q | q
      · rw [q]; exact h2 i List.mem_cons_self
      · exact h2 _ (List.mem_cons_of_mem _ q)
    omega
section
variable {K : PySem.W.Frag} {X : Cx} {G : Hp} {R : List Addr}
theorem intsL_rp : ∀ {ts : List T} {vs : List V} {is : List Int}, RpL K G R ts vs → intsL ts = some is → vs = is.map V.int
  | _, _, _, .nil, e => by cases e; rfl
  | _, _, _, .cons (t := t) (ts := ts) h k, e => by
    cases h with
    | int i =>
      have e' : (intsL ts).map (i :: ·) = some _ := e
      obtain ⟨js, e1, rfl⟩ := Option.map_eq_some_iff.mp e'
      rw [intsL_rp k e1]; rfl
    | _ => cases e
theorem o2_max : Op2 K (fun v w => (fun (xs : List V) H Q => ∃ i j, xs = [.int i, .int j] ∧ Q (.int (if j > i then j else i)) H) [v, w]) gMax2 .fz := by
  intro G R H h x y vx vy z Q g lx ly e k
  obtain ⟨i, j, rfl, rfl, c, rfl⟩ := gI_inv e
  exact ⟨i, j, by rw [lx.int, ly.int], k _ G R H g .refl (.int _)⟩
theorem o2_min : Op2 K (fun v w => (fun (xs : List V) H Q => ∃ i j, xs = [.int i, .int j] ∧ Q (.int (if j < i then j else i)) H) [v, w]) gMin2 .fz := by
  intro G R H h x y vx vy z Q g lx ly e k
  obtain ⟨i, j, rfl, rfl, c, rfl⟩ := gI_inv e
  exact ⟨i, j, by rw [lx.int, ly.int], k _ G R H g .refl (.int _)⟩
theorem o1_max : Op1 K (fun v => rMax K [v]) gMax .fz := by
  intro G R H h x vx z Q g lx e k
  unfold gMax at e
  obtain ⟨is, e1, e2⟩ := Option.bind_eq_some_iff.mp e
  obtain ⟨ts, e3, e4⟩ := Option.bind_eq_some_iff.mp e1
  obtain ⟨n, e5, rfl⟩ := Option.map_eq_some_iff.mp e2
  obtain ⟨a, xs, rfl, h1, h2⟩ := lx.asL g e3
  have ex := intsL_rp h2 e4
  subst ex
  refine ⟨a, is, rfl, h1, ?_, fun m m1 m2 => ?_⟩
  · cases is with
    | nil => cases e5
    | cons _ _ => exact Nat.succ_pos _
  · rw [maxI_eq e5 m1 m2]; exact k _ G R H g .refl (.int _)
theorem o1_sum : Op1 K (fun v => rSum K [v]) gSum .fz := by
  intro G R H h x vx z Q g lx e k
  unfold gSum at e
  obtain ⟨is, e1, rfl⟩ := Option.map_eq_some_iff.mp e
  obtain ⟨ts, e3, e4⟩ := Option.bind_eq_some_iff.mp e1
  obtain ⟨a, xs, rfl, h1, h2⟩ := lx.asL g e3
  have ex := intsL_rp h2 e4
  subst ex
  exact ⟨a, is, rfl, h1, k _ G R H g .refl (.int _)⟩
/-- any, all of truths and ints -/
def truV : V → Option Bool
  | .bl b => some b
  | .int i => some (i != 0)
  | _ => none
theorem truthA {prog : Program} {w : World} {A : Around} {xs : List V} {its : List Value} {bs : List Bool} (r : Vals xs its) (e : xs.map truV = bs.map some) : TruthOf prog w A (fun i v => its.toArray[i]? = some v) (fun i => bs.getD i false) := fun i v s Q E hv hq => by
  have hv' : its[i]? = some v := by simpa using hv
  have hi : i < its.length := (List.getElem?_eq_some_iff.mp hv').1
  obtain ⟨x, hx⟩ : ∃ x, xs[i]? = some x := ⟨_, List.getElem?_eq_getElem (by rw [r.length]; exact hi)⟩
  obtain ⟨u, hu, ru⟩ := r.get hx
  rw [hv'] at hu; cases hu
  have hb : (xs.map truV)[i]? = some (truV x) := by rw [List.getElem?_map, hx]; rfl
  rw [e, List.getElem?_map] at hb
  obtain ⟨b, hb1, hb2⟩ := Option.map_eq_some_iff.mp hb
  have hg : bs.getD i false = b := by rw [List.getD_eq_getElem?_getD, hb1] <;> rfl
  have hq' : Q (bs.getD i false) s := hq
  rw [hg] at hq'
  cases x with
  | bl k =>
    cases ru
    cases hb2
    exact wpAny_truthy_bool hq'
  | int k =>
    obtain ⟨t, rfl⟩ := ru
    cases hb2
    exact PySem.P.truthy_int hq'
  | _ => cases hb2
def rAnyA (K : PySem.W.Frag) : List V → Hp → VK → Prop := fun vs H Q => ∃ (a : Addr) (xs : List V) (bs : List Bool), vs = [V.ref a] ∧ SqL K H a xs ∧ xs.map truV = bs.map some ∧ Q (.bl (bs.any id)) H
def rAllA (K : PySem.W.Frag) : List V → Hp → VK → Prop := fun vs H Q => ∃ (a : Addr) (xs : List V) (bs : List Bool), vs = [V.ref a] ∧ SqL K H a xs ∧ xs.map truV = bs.map some ∧ Q (.bl (bs.all id)) H
theorem tru_len {xs : List V} {its : List Value} {bs : List Bool} (r : Vals xs its) (e : xs.map truV = bs.map some) : its.length = bs.length := by
  have := congrArg List.length e
  rw [List.length_map, List.length_map, r.length] at this
  exact this
theorem cr_anyA (hc : X.calm = true) : CallR X (.builtin "any") (rAnyA X.K) := by
  intro pins s σ H vs us Q I r h
  obtain ⟨a, xs, bs, rfl, hs, hb, q⟩ := h
  obtain ⟨its, rv, hl, _⟩ := I.list hs
  rw [Vals.ref1 r]
  refine call_any_walk (iter_any hl.isList fun s₂ e2 st hne => ?_)
  subst e2
  refine ⟨_, _, _, _, _, _, _, rfl, Walks.list (A := X.A.in1) (I.ok.hd hc) _ a hne its.toArray, st, truthA rv hb, fun h' tk hk => ?_⟩
  refine ⟨.bl _, H, I.kept fun b o eo => hk b o (fun hmem => ?_) (Heap.get?_push_of_some _ eo), ?_, q⟩
  · rcases List.mem_cons.mp hmem with e1 | hmem
    · exact absurd (e1 ▸ Heap.lt_size eo) (Nat.lt_irrefl _)
    · cases hmem
  · show Value.bool _ = Value.bool _
    rw [← L2.any_range, List.size_toArray, tru_len rv hb]
theorem cr_allA (hc : X.calm = true) : CallR X (.builtin "all") (rAllA X.K) := by
  intro pins s σ H vs us Q I r h
  obtain ⟨a, xs, bs, rfl, hs, hb, q⟩ := h
  obtain ⟨its, rv, hl, _⟩ := I.list hs
  rw [Vals.ref1 r]
  refine call_all_walk (iter_any hl.isList fun s₂ e2 st hne => ?_)
  subst e2
  refine ⟨_, _, _, _, _, _, _, rfl, Walks.list (A := X.A.in1) (I.ok.hd hc) _ a hne its.toArray, st, truthA rv hb, fun h' tk hk => ?_⟩
  refine ⟨.bl _, H, I.kept fun b o eo => hk b o (fun hmem => ?_) (Heap.get?_push_of_some _ eo), ?_, q⟩
  · rcases List.mem_cons.mp hmem with e1 | hmem
    · exact absurd (e1 ▸ Heap.lt_size eo) (Nat.lt_irrefl _)
    · cases hmem
  · show Value.bool _ = Value.bool _
    rw [← L2.all_range, List.size_toArray, tru_len rv hb]
theorem truL_rp : ∀ {ts : List T} {vs : List V} {is : List Bool}, RpL K G R ts vs → truL ts = some is → vs.map truV = is.map some
  | _, _, _, .nil, e => by cases e; rfl
  | _, _, _, .cons (t := t) (ts := ts) h k, e => by
    have e' : (match truT t, truL ts with | some b, some bs => some (b :: bs) | _, _ => none) = some _ := e
    split at e'
    · rename_i b bs e1 e2
      cases e'
      rw [List.map_cons, List.map_cons, truL_rp k e2]
      cases h <;> cases e1 <;> rfl
    · cases e'
theorem o1_any : Op1 K (fun v => rAnyA K [v]) gAny .fz := by
  intro G R H h x vx z Q g lx e k
  unfold gAny at e
  obtain ⟨is, e1, rfl⟩ := Option.map_eq_some_iff.mp e
  obtain ⟨ts, e3, e4⟩ := Option.bind_eq_some_iff.mp e1
  obtain ⟨a, xs, rfl, h1, h2⟩ := lx.asL g e3
  exact ⟨a, xs, is, rfl, h1, truL_rp h2 e4, k _ G R H g .refl (.bl _)⟩
theorem o1_all : Op1 K (fun v => rAllA K [v]) gAll .fz := by
  intro G R H h x vx z Q g lx e k
  unfold gAll at e
  obtain ⟨is, e1, rfl⟩ := Option.map_eq_some_iff.mp e
  obtain ⟨ts, e3, e4⟩ := Option.bind_eq_some_iff.mp e1
  obtain ⟨a, xs, rfl, h1, h2⟩ := lx.asL g e3
  exact ⟨a, xs, is, rfl, h1, truL_rp h2 e4, k _ G R H g .refl (.bl _)⟩
end
/-! #### isinstance of built-in types -/
def tyN (h : IH) : T → Option String
  | .non => some "NoneType"
  | .bl _ => some "bool"
  | .int _ => some "int"
  | .str _ => some "str"
  | .tup _ => some "tuple"
  | .lst _ => some "list"
  | .box n => match h[n]? with
    | some (.lst _) => some "list"
    | _ => none
/-- the types that are asked for: int bool str tuple list -/
def isiB (a b : String) : Bool := a == b || (a == "bool" && b == "int")
def gIsi (ns : List String) : G1 := fun x h => (tyN h x).map fun a => .bl (ns.any fun b => isiB a b)
def askT : List String := ["int", "bool", "str", "tuple", "list"]
def haveT : List String := ["NoneType", "bool", "int", "str", "tuple", "list"]
theorem isi_all : (haveT.all fun a => askT.all fun b => kitB a b == some (isiB a b)) = true := by decide +kernel
theorem isi_one {K : PySem.W.Frag} {a b : String} (ha : a ∈ haveT) (hb : b ∈ askT) : PySem.W.kitOne K (.type a) (.type b) = some (isiB a b) := by
  have h := List.all_eq_true.mp isi_all a ha
  have h2 := List.all_eq_true.mp h b hb
  exact kit_ty (beq_iff_eq.mp h2)
theorem isi_any {K : PySem.W.Frag} {a : String} (ha : a ∈ haveT) : ∀ ns : List String, (∀ b ∈ ns, b ∈ askT) → PySem.W.kitAny K (.type a) (ns.map Value.type) = some (ns.any fun b => isiB a b)
  | [], _ => rfl
  | b :: r, h => by
    rw [List.map_cons, List.any_cons]
    refine kitAny_cons (isi_one ha (h b List.mem_cons_self)) (fun q => ?_) fun q => by rw [q]; rfl
    rw [q, Bool.false_or]
    exact isi_any ha r fun b' m => h b' (List.mem_cons_of_mem _ m)
section
variable {K : PySem.W.Frag} {G : Hp} {R : List Addr} {H : Hp} {h : IH}
theorem tyX_L {a : Addr} {xs : List V} (q : SqL K H a xs) : TyX K H (.ref a) (.type "list") := by
  rcases q with (q | ⟨o, q⟩) | ⟨o, its, n, q, c, _⟩
  · exact .base (.lst q)
  · exact .base (.frz q)
  · exact .kList q c
theorem tyX_T {a : Addr} {xs : List V} (q : SqT K H a xs) : TyX K H (.ref a) (.type "tuple") := by
  rcases q with (q | ⟨o, q⟩) | ⟨o, its, n, q, c, _⟩
  · exact .base (.tup q)
  · exact .fTuple q
  · exact .kTuple q c
theorem Live.ty (g : Gd K G R H h) {t : T} {v : V} {a : String} (r : Live K G R H t v) (e : tyN h t = some a) : TyX K H v (.type a) ∧ a ∈ haveT := by
  rcases r with r | ⟨ts, p, xs, rfl, rfl, h3, h4, h5⟩
  · cases r with
    | non => cases e; exact ⟨.base .non, by decide⟩
    | bl b => cases e; exact ⟨.base (.bl b), by decide⟩
    | int b => cases e; exact ⟨.base (.int b), by decide⟩
    | str b => cases e; exact ⟨.base (.str b), by decide⟩
    | tup q k => cases e; exact ⟨tyX_T (g.sqT q), by decide⟩
    | lst q k => cases e; exact ⟨tyX_L (g.sqL q), by decide⟩
    | @box p n q =>
      have e' : (match h[n]? with | some (.lst _) => some "list" | _ => none) = some a := e
      split at e'
      · rename_i us eq
        cases e'
        obtain ⟨xs, h1, h2⟩ := g.cell n p _ q eq
        exact ⟨tyX_L (SqL.of h1), by decide⟩
      · cases e'
  · cases e
    exact ⟨tyX_L (SqL.of h3), by decide⟩
end
section
variable {X : Cx} {E : WX} {lin : List Nat} {kd k1 k2 k3 : Kd} {e a b c : Expr} {fa fb fc : SE} {pos p p1 p2 p3 p4 : Pos} {x1 : Nat}
theorem pb_isi {y : Str} {n : String} (hg : Gl X "isinstance") (hm : X.mg "isinstance" = none) (hgy : Gl X y) (hmy : X.mg y = none) (hvy : bootBuiltins y = some (.type n)) (hn : n ∈ askT) (ha : PEB X E lin k1 a fa) (hny : y ≠ "__name__" := by decide) (hdy : (y == ("__debug__" : Str)) = false := by decide)
    (hs : starEach [a, .Name y p1] X.env = (false, eval a X.env) :: starEach [.Name y p1] X.env := by rfl) (hs2 : starEach [.Name y p1] X.env = (false, eval (.Name y p1) X.env) :: starEach [] X.env := by rfl) (hpl : (backTo pos (starEach [.Name y p1] X.env)).any (·.1) = false := by rfl) :
    PEB X E lin .fz (.Call (.Name "isinstance" p) [a, .Name y p1] [] pos) (eUn (gIsi [n]) fa) :=
  impE (pe_callB call_isi hg hm PyProof.Rows.boot_isinstance (pa_cons ha (pa_cons (pe_bltn (v := .ty n) hgy hmy hvy rfl hny hdy) pa_nil hs2) hs) (by decide) (by decide) hs hpl) fun σ H Q ⟨G, R, τ, h, N0, gd, fr, o⟩ => by
    refine lE.then gd fr o fun x vx h1 G1 R1 H1 g1 e1 f1 r1 o1 => ?_
    cases q : tyN h1 x with
    | none => unfold gIsi at o1; rw [q] at o1; exact o1.elim
    | some t =>
      obtain ⟨ty, ht⟩ := (Res.live r1).ty g1 q
      unfold gIsi at o1
      rw [q] at o1
      refine ⟨vx, .ty n, .type t, .type n, isiB t n, rfl, .ty n, ty, isi_one ht hn, ?_⟩
      refine o1 G1 R1 H1 g1 .refl _ ?_
      have q2 : ([n].any fun b => isiB t b) = isiB t n := by rw [List.any_cons, List.any_nil, Bool.or_false]
      show Rp X.K G1 R1 (.bl ([n].any fun b => isiB t b)) _
      rw [q2]
      exact .bl _
theorem pb_isi2 {y z : Str} {n m : String} (hg : Gl X "isinstance") (hm : X.mg "isinstance" = none) (hgy : Gl X y) (hmy : X.mg y = none) (hvy : bootBuiltins y = some (.type n)) (hn : n ∈ askT) (hgz : Gl X z) (hmz : X.mg z = none) (hvz : bootBuiltins z = some (.type m)) (hmm : m ∈ askT) (ha : PEB X E lin k1 a fa)
    (hny : y ≠ "__name__" := by decide) (hdy : (y == ("__debug__" : Str)) = false := by decide) (hnz : z ≠ "__name__" := by decide) (hdz : (z == ("__debug__" : Str)) = false := by decide)
    (hs : starEach [a, .Tuple [.Name y p1, .Name z p2] x1 p3] X.env = (false, eval a X.env) :: starEach [.Tuple [.Name y p1, .Name z p2] x1 p3] X.env := by rfl) (hs2 : starEach [.Tuple [.Name y p1, .Name z p2] x1 p3] X.env = (false, eval (.Tuple [.Name y p1, .Name z p2] x1 p3) X.env) :: starEach [] X.env := by rfl)
    (hs3 : starEach [.Name y p1, .Name z p2] X.env = (false, eval (.Name y p1) X.env) :: starEach [.Name z p2] X.env := by rfl) (hs4 : starEach [.Name z p2] X.env = (false, eval (.Name z p2) X.env) :: starEach [] X.env := by rfl) (hpl : (backTo pos (starEach [.Tuple [.Name y p1, .Name z p2] x1 p3] X.env)).any (·.1) = false := by rfl) :
    PEB X E lin .fz (.Call (.Name "isinstance" p) [a, .Tuple [.Name y p1, .Name z p2] x1 p3] [] pos) (eUn (gIsi [n, m]) fa) :=
  impE (pe_callB call_isiT hg hm PyProof.Rows.boot_isinstance (pa_cons ha (pa_cons (pe_tup (pa_cons (pe_bltn (v := .ty n) hgy hmy hvy rfl hny hdy) (pa_cons (pe_bltn (v := .ty m) hgz hmz hvz rfl hnz hdz) pa_nil hs4) hs3)) pa_nil hs2) hs) (by decide) (by decide) hs hpl) fun σ H Q ⟨G, R, τ, h, N0, gd, fr, o⟩ => by
    refine lE.then gd fr o fun x vx h1 G1 R1 H1 g1 e1 f1 r1 o1 => ?_
    cases q : tyN h1 x with
    | none => unfold gIsi at o1; rw [q] at o1; exact o1.elim
    | some t =>
      unfold gIsi at o1
      rw [q] at o1
      refine ⟨by show 2 ≤ sizeLine; decide, fun tp hp => ?_⟩
      obtain ⟨g2, e2⟩ := g1.newG (o := .tup [.ty n, .ty m]) hp
      obtain ⟨ty, ht⟩ := (Live.ext e2 (Res.live r1)).ty g2 q
      refine ⟨vx, tp, [.ty n, .ty m], .type t, [.type n, .type m], [n, m].any (fun b => isiB t b), rfl, upd_same, .cons (.ty n) (.cons (.ty m) .nil), ty, isi_any ht [n, m] (fun b hb => ?_), ?_⟩
      · rcases List.mem_cons.mp hb with rfl | hb
        · exact hn
        · rw [List.mem_singleton.mp hb]; exact hmm
      · exact o1 _ _ _ g2 e2 _ (.bl _)
end
/-! ### calls of own defs -/
abbrev SF := List T → IH → Rs T
def spB (K : PySem.W.Frag) (mg : Str → Option Value) (rk : Kd) (F : SF) : Sp := fun vs H Q E => ∃ G R ts h, Gd K G R H h ∧ RpL K G R ts vs ∧ Out K mg E G R H (F ts h) fun t G' R' H' => ∀ v, Res K rk H t v G' R' H' → Q v H'
structure CalB (P : Program) (w : World) (K : PySem.W.Frag) (mg : Str → Option Value) (base : Heap) (k : Nat) (x : Str) (rk : Kd) (F : SF) : Prop where
  ex : ∃ (f : Addr) (fd : FuncData) (ps : List Str), FnOk P w K mg base (L2.CX P w) k f fd ps (spB K mg rk F) ∧ mg x = some (.ref f) ∧ PySem.W.keepIn K (.ref f) = true ∧ Binds K fd ps []
def eCall (F : SF) (f : SA) : SE := fun τ h => (f τ h).bind fun ts h1 => F ts h1
section
variable {X : Cx} {E : WX} {lin : List Nat} {kd k1 k2 k3 : Kd} {e a b c : Expr} {es : List Expr} {fs : SA} {fa fb fc : SE} {pos p p1 p2 p3 p4 : Pos} {x : Str} {k j n : Nat} {rk : Kd} {F : SF}
theorem pb_call (C : CalB X.prog X.w X.K X.mg X.base k x rk F) (hr : Room j X.A) (hk : k ≤ j) (tk : Takes X E) (hg : Gl X x) (ha : PAB X E lin (a :: es) fs) (hdb : (x == ("__debug__" : Str)) = false := by decide)
    (he : starEach (a :: es) X.env = (false, eval a X.env) :: starEach es X.env := by rfl) (hpl : (backTo pos (starEach es X.env)).any (·.1) = false := by rfl) : PEB X E lin rk (.Call (.Name x p) (a :: es) [] pos) (eCall F fs) := by
  obtain ⟨f, fd, ps, ok, hm, kp, hb⟩ := C.ex
  refine impE (pe_callSD (E := fun σ c d H => E c d σ H) ok (hr.mono hk) hg hm kp hb .nil (fun σ => passAt tk σ) ha hdb he hpl) fun σ H Q ⟨G, R, τ, h, N0, gd, fr, o⟩ => ?_
  refine lA.then gd fr o fun ts vs h1 G1 R1 H1 g1 e1 f1 r1 o1 => ?_
  refine ⟨G1, R1, ts, h1, g1, by rw [List.append_nil]; exact r1, ?_⟩
  cases q2 : F ts h1 with
  | ok t h' => rw [q2] at o1; exact fun G' R' H' g' e' v r => o1 G' R' H' g' e' v (Res.back g1 e1 r)
  | exc x h' => rw [q2] at o1; exact o1
  | no => rw [q2] at o1; exact o1
end
end GB
namespace GB
open PySem PySem.Spec PyProof.Rows L2

/-! ### what is walked -/
structure ItOk (K : PySem.W.Frag) (G : Hp) (R : List Addr) (J : It) (ts : List T) : Prop where
  go : ∀ i G1 R1 H1 h1, Gd K G1 R1 H1 h1 → Same G G1 → R <+: R1 → i < ts.length → J.go i H1
  yld : ∀ i t G1 R1 H1 h1 x H2, Gd K G1 R1 H1 h1 → Same G G1 → R <+: R1 → ts[i]? = some t → J.yld i H1 x H2 → ∃ G2, Gd K G2 R1 H2 h1 ∧ Ext G1 R1 H1 G2 R1 H2 ∧ Rp K G2 R1 t x
  stop : ∀ i G1 R1 H1 h1, Gd K G1 R1 H1 h1 → Same G G1 → R <+: R1 → ts.length ≤ i → J.stop i H1
abbrev SI := Ev → IH → Rs (List T)
def lI (K : PySem.W.Frag) (mg : Str → Option Value) (E : WX) (lin : List Nat) (f : SI) : TI := fun σ H Q =>
  ∃ G R τ h N0, Gd K G R H h ∧ Fr K lin G R H τ σ N0 ∧ Out K mg (fun c d H' => E c d σ H') G R H (f τ h) fun ts G' R' H' => ∀ J, ItOk K G' R' J ts → Q J H'
def PIB (X : Cx) (E : WX) (lin : List Nat) (tg e : Expr) (f : SI) : Prop := PI X tg e (lI X.K X.mg E lin f)
theorem impI {X : Cx} {tg e : Expr} {t t' : TI} (h : PI X tg e t) (w : ∀ σ H Q, t' σ H Q → t σ H Q) : PI X tg e t' := ⟨fun pins s σ H Q I q => h.run pins s σ H Q I (w σ H Q q)⟩
def iMap (f : SE) (g : T → IH → Option (List T)) : SI := fun τ h => (f τ h).bind fun x h1 => Rs.of (g x h1) h1
def gL : T → IH → Option (List T)
  | .lst ts, _ => some ts
  | _, _ => none
def gT : T → IH → Option (List T)
  | .tup ts, _ => some ts
  | _, _ => none
def gS : T → IH → Option (List T)
  | .str s, _ => some (s.cps.toList.map fun c => .str ⟨#[c]⟩)
  | _, _ => none
def enumL (ts : List T) : List T := ts.zipIdx.map fun p => .tup [.int (p.2 : Int), p.1]
def gEnL : T → IH → Option (List T)
  | .lst ts, _ => some (enumL ts)
  | _, _ => none
def rngL (lo : Int) (n : Nat) (c : Int) : List T := (List.range n).map fun (k : Nat) => T.int (lo + (k : Int) * c)
def okR (i : Int) : Bool := decide (-(2 ^ 62) ≤ i ∧ i < 2 ^ 62)
def iR1 (f : SE) : SI := fun τ h => (f τ h).bind fun x h1 =>
  match x with
  | .int j => if okR j = true then .ok (rngL 0 j.toNat 1) h1 else .no
  | _ => .no
def iR2 (f g : SE) : SI := fun τ h => (f τ h).bind fun x h1 => (g τ h1).bind fun y h2 =>
  match x, y with
  | .int i, .int j => if (okR i && okR j) = true then .ok (rngL i (j - i).toNat 1) h2 else .no
  | _, _ => .no
def iR3 (f g k : SE) : SI := fun τ h => (f τ h).bind fun x h1 => (g τ h1).bind fun y h2 => (k τ h2).bind fun z h3 =>
  match x, y, z with
  | .int i, .int j, .int (-1) => if (okR i && okR j) = true then .ok (rngL i (i - j).toNat (-1)) h3 else .no
  | _, _, _ => .no
def zipT (xs ys : List T) : List T := List.zipWith (fun x y => .tup [x, y]) xs ys
def iZ (g1 g2 : T → IH → Option (List T)) (f g : SE) : SI := fun τ h => (f τ h).bind fun x h1 => (g τ h1).bind fun y h2 =>
  match g1 x h2, g2 y h2 with
  | some xs, some ys => .ok (zipT xs ys) h2
  | _, _ => .no
section
variable {X : Cx} {E : WX} {lin : List Nat} {tg a b c : Expr} {fa fb fc : SE} {p pos tpos : Pos} {elts : List Expr} {kk : Nat}
variable {K : PySem.W.Frag} {G : Hp} {R : List Addr} {H : Hp} {h : IH}
theorem it_list {q : Addr} {xs : List V} {ts : List T} (hq : SqL K G q xs) (r : RpL K G R ts xs) : ItOk K G R (Itl K q) ts where
  go := fun i G1 R1 H1 h1 g s p hi => by
    obtain ⟨x, hx⟩ : ∃ x, xs[i]? = some x := ⟨_, List.getElem?_eq_getElem (by rw [← r.len]; exact hi)⟩
    exact ⟨xs, x, g.sqL (same_sqL s hq), hx⟩
  yld := fun i t G1 R1 H1 h1 x H2 g s p ht y => by
    obtain ⟨rfl, y⟩ := y
    obtain ⟨v, hv, rv⟩ := r.get ht
    have e := (y xs (g.sqL (same_sqL s hq))).symm.trans hv
    cases e
    exact ⟨G1, g, .refl, rv.mono s p⟩
  stop := fun i G1 R1 H1 h1 g s p hi => ⟨xs, g.sqL (same_sqL s hq), by rw [← r.len]; exact hi⟩
theorem it_tup {q : Addr} {xs : List V} {ts : List T} (hq : SqT K G q xs) (r : RpL K G R ts xs) : ItOk K G R (Itt K q) ts where
  go := fun i G1 R1 H1 h1 g s p hi => by
    obtain ⟨x, hx⟩ : ∃ x, xs[i]? = some x := ⟨_, List.getElem?_eq_getElem (by rw [← r.len]; exact hi)⟩
    exact ⟨xs, x, g.sqT (same_sqT s hq), hx⟩
  yld := fun i t G1 R1 H1 h1 x H2 g s p ht y => by
    obtain ⟨rfl, y⟩ := y
    obtain ⟨v, hv, rv⟩ := r.get ht
    have e := (y xs (g.sqT (same_sqT s hq))).symm.trans hv
    cases e
    exact ⟨G1, g, .refl, rv.mono s p⟩
  stop := fun i G1 R1 H1 h1 g s p hi => ⟨xs, g.sqT (same_sqT s hq), by rw [← r.len]; exact hi⟩
theorem rngL_get {lo c : Int} {n i : Nat} {t : T} (h : (rngL lo n c)[i]? = some t) : i < n ∧ t = .int (lo + (i : Int) * c) := by
  unfold rngL at h
  rw [List.getElem?_map] at h
  obtain ⟨k, hk, rfl⟩ := Option.map_eq_some_iff.mp h
  have hi : i < n := by
    have := (List.getElem?_eq_some_iff.mp hk).1
    rw [List.length_range] at this; exact this
  rw [List.getElem?_range hi] at hk
  cases hk
  exact ⟨hi, rfl⟩
theorem rngL_len (lo c : Int) (n : Nat) : (rngL lo n c).length = n := by unfold rngL; rw [List.length_map, List.length_range]
theorem it_rng {lo : Int} {n : Nat} : ItOk K G R (Itr lo n) (rngL lo n 1) where
  go := fun i G1 R1 H1 h1 g s p hi => by rw [rngL_len] at hi; exact hi
  yld := fun i t G1 R1 H1 h1 x H2 g s p ht y => by
    obtain ⟨rfl, rfl⟩ := y
    obtain ⟨_, rfl⟩ := rngL_get ht
    rw [Int.mul_one]
    exact ⟨G1, g, .refl, .int _⟩
  stop := fun i G1 R1 H1 h1 g s p hi => by rw [rngL_len] at hi; exact hi
theorem it_rngc {lo c : Int} {n : Nat} : ItOk K G R (Itc lo c n) (rngL lo n c) where
  go := fun i G1 R1 H1 h1 g s p hi => by rw [rngL_len] at hi; exact hi
  yld := fun i t G1 R1 H1 h1 x H2 g s p ht y => by
    obtain ⟨rfl, rfl⟩ := y
    obtain ⟨_, rfl⟩ := rngL_get ht
    exact ⟨G1, g, .refl, .int _⟩
  stop := fun i G1 R1 H1 h1 g s p hi => by rw [rngL_len] at hi; exact hi
theorem it_str {x : Str} : ItOk K G R (Its x) (x.cps.toList.map fun c => .str ⟨#[c]⟩) where
  go := fun i G1 R1 H1 h1 g s p hi => show i < x.cps.size by simpa using hi
  yld := fun i t G1 R1 H1 h1 y H2 g s p ht q => by
    obtain ⟨rfl, c, hc, rfl⟩ := q
    rw [List.getElem?_map] at ht
    obtain ⟨k, hk, rfl⟩ := Option.map_eq_some_iff.mp ht
    have e : x.cps.toList[i]? = some c := by simpa using hc
    rw [e] at hk
    cases hk
    exact ⟨G1, g, .refl, .str _⟩
  stop := fun i G1 R1 H1 h1 g s p hi => show x.cps.size ≤ i by simpa using hi
theorem enumL_get {ts : List T} {i : Nat} {t : T} (h : (enumL ts)[i]? = some t) : ∃ u, ts[i]? = some u ∧ t = .tup [.int (i : Int), u] := by
  unfold enumL at h
  rw [List.getElem?_map] at h
  obtain ⟨p, hp, rfl⟩ := Option.map_eq_some_iff.mp h
  rw [List.getElem?_zipIdx] at hp
  obtain ⟨u, hu, rfl⟩ := Option.map_eq_some_iff.mp hp
  exact ⟨u, hu, by simp⟩
theorem enumL_len (ts : List T) : (enumL ts).length = ts.length := by unfold enumL; rw [List.length_map, List.length_zipIdx]
theorem it_enum {q : Addr} {xs : List V} {ts : List T} (hq : SqL K G q xs) (r : RpL K G R ts xs) : ItOk K G R (Ite K q) (enumL ts) where
  go := fun i G1 R1 H1 h1 g s p hi => by
    rw [enumL_len] at hi
    obtain ⟨x, hx⟩ : ∃ x, xs[i]? = some x := ⟨_, List.getElem?_eq_getElem (by rw [← r.len]; exact hi)⟩
    exact ⟨xs, x, g.sqL (same_sqL s hq), hx⟩
  yld := fun i t G1 R1 H1 h1 x H2 g s p ht y => by
    obtain ⟨T, v, rfl, nT, rfl, y⟩ := y
    obtain ⟨u, hu, rfl⟩ := enumL_get ht
    obtain ⟨w, hw, rw'⟩ := r.get hu
    have e := (y xs (g.sqL (same_sqL s hq))).symm.trans hw
    cases e
    obtain ⟨g2, e2⟩ := g.newG (o := .tup [.int (i : Nat), v]) nT
    exact ⟨_, g2, e2, .tup (SqT.of upd_same) (.cons (.int _) (.cons (e2.rp (rw'.mono s p)) .nil))⟩
  stop := fun i G1 R1 H1 h1 g s p hi => ⟨xs, g.sqL (same_sqL s hq), by rw [← r.len]; rw [enumL_len] at hi; exact hi⟩
theorem zipT_get {xs ys : List T} {i : Nat} {t : T} (h : (zipT xs ys)[i]? = some t) : ∃ u w, xs[i]? = some u ∧ ys[i]? = some w ∧ t = .tup [u, w] := by
  unfold zipT at h
  rw [List.getElem?_zipWith] at h
  cases hx : xs[i]? with
  | none => rw [hx] at h; cases h
  | some u =>
    cases hy : ys[i]? with
    | none => rw [hx, hy] at h; cases h
    | some w => rw [hx, hy] at h; cases h; exact ⟨u, w, rfl, rfl, rfl⟩
theorem zipT_len (xs ys : List T) : (zipT xs ys).length = min xs.length ys.length := by unfold zipT; rw [List.length_zipWith]
theorem it_zipL {q q' : Addr} {xs ys : List V} {ts us : List T} (hq : SqL K G q xs) (r : RpL K G R ts xs) (hq' : SqL K G q' ys) (r' : RpL K G R us ys) : ItOk K G R (Itz K q q') (zipT ts us) where
  go := fun i G1 R1 H1 h1 g s p hi => by
    rw [zipT_len] at hi
    obtain ⟨x, hx⟩ : ∃ x, xs[i]? = some x := ⟨_, List.getElem?_eq_getElem (by rw [← r.len]; omega)⟩
    obtain ⟨y, hy⟩ : ∃ x, ys[i]? = some x := ⟨_, List.getElem?_eq_getElem (by rw [← r'.len]; omega)⟩
    exact ⟨xs, ys, x, y, g.sqL (same_sqL s hq), g.sqL (same_sqL s hq'), hx, hy⟩
  yld := fun i t G1 R1 H1 h1 x H2 g s p ht y => by
    obtain ⟨T, v, v', rfl, nT, rfl, y, y'⟩ := y
    obtain ⟨u, w, hu, hw, rfl⟩ := zipT_get ht
    obtain ⟨z, hz, rz⟩ := r.get hu
    obtain ⟨z', hz', rz'⟩ := r'.get hw
    have e := (y xs (g.sqL (same_sqL s hq))).symm.trans hz
    have e' := (y' ys (g.sqL (same_sqL s hq'))).symm.trans hz'
    cases e
    cases e'
    obtain ⟨g2, e2⟩ := g.newG (o := .tup [v, v']) nT
    exact ⟨_, g2, e2, .tup (SqT.of upd_same) (.cons (e2.rp (rz.mono s p)) (.cons (e2.rp (rz'.mono s p)) .nil))⟩
  stop := fun i G1 R1 H1 h1 g s p hi => ⟨xs, ys, g.sqL (same_sqL s hq), g.sqL (same_sqL s hq'), by rw [zipT_len] at hi; rw [← r.len, ← r'.len]; omega⟩
theorem it_zipT {q q' : Addr} {xs ys : List V} {ts us : List T} (hq : SqT K G q xs) (r : RpL K G R ts xs) (hq' : SqT K G q' ys) (r' : RpL K G R us ys) : ItOk K G R (RZ.ItzT K q q') (zipT ts us) where
  go := fun i G1 R1 H1 h1 g s p hi => by
    rw [zipT_len] at hi
    obtain ⟨x, hx⟩ : ∃ x, xs[i]? = some x := ⟨_, List.getElem?_eq_getElem (by rw [← r.len]; omega)⟩
    obtain ⟨y, hy⟩ : ∃ x, ys[i]? = some x := ⟨_, List.getElem?_eq_getElem (by rw [← r'.len]; omega)⟩
    exact ⟨xs, ys, x, y, g.sqT (same_sqT s hq), g.sqT (same_sqT s hq'), hx, hy⟩
  yld := fun i t G1 R1 H1 h1 x H2 g s p ht y => by
    obtain ⟨T, v, v', rfl, nT, rfl, y, y'⟩ := y
    obtain ⟨u, w, hu, hw, rfl⟩ := zipT_get ht
    obtain ⟨z, hz, rz⟩ := r.get hu
    obtain ⟨z', hz', rz'⟩ := r'.get hw
    have e := (y xs (g.sqT (same_sqT s hq))).symm.trans hz
    have e' := (y' ys (g.sqT (same_sqT s hq'))).symm.trans hz'
    cases e
    cases e'
    obtain ⟨g2, e2⟩ := g.newG (o := .tup [v, v']) nT
    exact ⟨_, g2, e2, .tup (SqT.of upd_same) (.cons (e2.rp (rz.mono s p)) (.cons (e2.rp (rz'.mono s p)) .nil))⟩
  stop := fun i G1 R1 H1 h1 g s p hi => ⟨xs, ys, g.sqT (same_sqT s hq), g.sqT (same_sqT s hq'), by rw [zipT_len] at hi; rw [← r.len, ← r'.len]; omega⟩

theorem pib_list (ha : PEB X E lin .fz a fa) : PIB X E lin tg a (iMap fa gL) := impI (pi_list ha) fun σ H Q ⟨G, R, τ, h, N0, gd, fr, o⟩ => by
  refine lE.then gd fr o fun x vx h1 G1 R1 H1 g1 e1 f1 r1 o1 => ?_
  unfold gL at o1
  split at o1
  · cases r1 with
    | lst q k => exact ⟨_, rfl, ⟨_, g1.sqL q⟩, o1 G1 R1 H1 g1 .refl _ (it_list q k)⟩
  · exact o1.elim
theorem pib_tup (ha : PEB X E lin .fz a fa) : PIB X E lin tg a (iMap fa gT) := impI (pi_tup ha) fun σ H Q ⟨G, R, τ, h, N0, gd, fr, o⟩ => by
  refine lE.then gd fr o fun x vx h1 G1 R1 H1 g1 e1 f1 r1 o1 => ?_
  unfold gT at o1
  split at o1
  · cases r1 with
    | tup q k => exact ⟨_, rfl, ⟨_, g1.sqT q⟩, o1 G1 R1 H1 g1 .refl _ (it_tup q k)⟩
  · exact o1.elim
theorem pib_str (ha : PEB X E lin .fz a fa) : PIB X E lin tg a (iMap fa gS) := impI (pi_str ha) fun σ H Q ⟨G, R, τ, h, N0, gd, fr, o⟩ => by
  refine lE.then gd fr o fun x vx h1 G1 R1 H1 g1 e1 f1 r1 o1 => ?_
  unfold gS at o1
  split at o1
  · cases r1 with
    | str => exact ⟨_, rfl, o1 G1 R1 H1 g1 .refl _ it_str⟩
  · exact o1.elim
theorem okR_of {i : Int} (h : okR i = true) : -(2 ^ 62) ≤ i ∧ i < 2 ^ 62 := by unfold okR at h; exact of_decide_eq_true h
theorem pib_r1 (hg : Gl X "range") (hm : X.mg "range" = none) (ha : PEB X E lin .fz a fa) (hs : starEach [a] X.env = [(false, eval a X.env)] := by rfl) : PIB X E lin tg (.Call (.Name "range" p) [a] [] pos) (iR1 fa) :=
  impI (pi_range1 hg hm (pa_cons ha pa_nil hs) hs) fun σ H Q ⟨G, R, τ, h, N0, gd, fr, o⟩ => by
    refine lE.then gd fr o fun x vx h1 G1 R1 H1 g1 e1 f1 r1 o1 => ?_
    split at o1
    · split at o1
      · rename_i j hk
        obtain ⟨q1, q2⟩ := okR_of hk
        cases r1
        exact ⟨j, rfl, q1, q2, o1 G1 R1 H1 g1 .refl _ it_rng⟩
      · exact o1.elim
    · exact o1.elim
theorem pib_r2 (hg : Gl X "range") (hm : X.mg "range" = none) (ha : PEB X E lin .fz a fa) (hb : PEB X E lin .fz b fb) (hs : starEach [a, b] X.env = [(false, eval a X.env), (false, eval b X.env)] := by rfl) (hs2 : starEach [b] X.env = [(false, eval b X.env)] := by rfl) : PIB X E lin tg (.Call (.Name "range" p) [a, b] [] pos) (iR2 fa fb) :=
  impI (pi_range2 hg hm (pa_cons ha (pa_cons hb pa_nil hs2) (by rw [hs, hs2])) hs hs2) fun σ H Q ⟨G, R, τ, h, N0, gd, fr, o⟩ => by
    refine lE.then gd fr o fun x vx h1 G1 R1 H1 g1 e1 f1 r1 o1 => ?_
    refine lE.then g1 f1 o1 fun y vy h2 G2 R2 H2 g2 e2 f2 r2 o2 => ?_
    split at o2
    · split at o2
      · rename_i i j hk
        rw [Bool.and_eq_true] at hk
        obtain ⟨q1, q2⟩ := okR_of hk.1
        obtain ⟨q3, q4⟩ := okR_of hk.2
        cases r1
        cases r2
        exact ⟨i, j, rfl, ⟨q1, q2, q3, q4⟩, o2 G2 R2 H2 g2 .refl _ it_rng⟩
      · exact o2.elim
    · exact o2.elim
theorem pib_r3 (hg : Gl X "range") (hm : X.mg "range" = none) (ha : PEB X E lin .fz a fa) (hb : PEB X E lin .fz b fb) (hc : PEB X E lin .fz c fc) (hs : starEach [a, b, c] X.env = (false, eval a X.env) :: starEach [b, c] X.env := by rfl) (hs2 : starEach [b, c] X.env = (false, eval b X.env) :: starEach [c] X.env := by rfl)
    (hs3 : starEach [c] X.env = (false, eval c X.env) :: starEach [] X.env := by rfl) (hpl : (backTo pos (starEach [b, c] X.env)).any (·.1) = false := by rfl) : PIB X E lin tg (.Call (.Name "range" p) [a, b, c] [] pos) (iR3 fa fb fc) :=
  impI (pi_range3 hg hm (pa_cons ha (pa_cons hb (pa_cons hc pa_nil hs3) hs2) hs) hs hpl) fun σ H Q ⟨G, R, τ, h, N0, gd, fr, o⟩ => by
    refine lE.then gd fr o fun x vx h1 G1 R1 H1 g1 e1 f1 r1 o1 => ?_
    refine lE.then g1 f1 o1 fun y vy h2 G2 R2 H2 g2 e2 f2 r2 o2 => ?_
    refine lE.then g2 f2 o2 fun z vz h3 G3 R3 H3 g3 e3 f3 r3 o3 => ?_
    split at o3
    · split at o3
      · rename_i i j hk
        rw [Bool.and_eq_true] at hk
        obtain ⟨q1, q2⟩ := okR_of hk.1
        obtain ⟨q3, q4⟩ := okR_of hk.2
        cases r1
        cases r2
        cases r3
        exact ⟨i, j, -1, (i - j).toNat, rfl, RgC.neg q1 q2 q3 q4, o3 G3 R3 H3 g3 .refl _ it_rngc⟩
      · exact o3.elim
    · exact o3.elim
theorem pib_enL (hg : Gl X "enumerate") (hm : X.mg "enumerate" = none) (ha : PEB X E lin .fz a fa) (hs : starEach [a] X.env = [(false, eval a X.env)] := by rfl) : PIB X E lin (.Tuple elts kk tpos) (.Call (.Name "enumerate" p) [a] [] pos) (iMap fa gEnL) :=
  impI (pi_enum hg hm (pa_cons ha pa_nil hs) hs) fun σ H Q ⟨G, R, τ, h, N0, gd, fr, o⟩ => by
    refine lE.then gd fr o fun x vx h1 G1 R1 H1 g1 e1 f1 r1 o1 => ?_
    unfold gEnL at o1
    split at o1
    · cases r1 with
      | lst q k => exact ⟨_, _, rfl, g1.sqL q, o1 G1 R1 H1 g1 .refl _ (it_enum q k)⟩
    · exact o1.elim
theorem pib_zLL (hg : Gl X "zip") (hm : X.mg "zip" = none) (ha : PEB X E lin .fz a fa) (hb : PEB X E lin .fz b fb) (hs : starEach [a, b] X.env = (false, eval a X.env) :: starEach [b] X.env := by rfl) (hs2 : starEach [b] X.env = (false, eval b X.env) :: starEach [] X.env := by rfl)
    (hpl : (backTo pos (starEach [b] X.env)).any (·.1) = false := by rfl) : PIB X E lin (.Tuple elts kk tpos) (.Call (.Name "zip" p) [a, b] [] pos) (iZ gL gL fa fb) :=
  impI (RZ.pi_zipA hg hm (pa_cons ha (pa_cons hb pa_nil hs2) hs) hs hpl) fun σ H Q ⟨G, R, τ, h, N0, gd, fr, o⟩ => by
    refine lE.then gd fr o fun x vx h1 G1 R1 H1 g1 e1 f1 r1 o1 => ?_
    refine lE.then g1 f1 o1 fun y vy h2 G2 R2 H2 g2 e2 f2 r2 o2 => ?_
    have r1' := e2.rp r1
    cases x with
    | lst ts =>
      cases y with
      | lst us =>
        cases r1' with
        | lst q k =>
          cases r2 with
          | lst q' k' => exact ⟨_, _, _, _, rfl, .inl ⟨g2.sqL q, g2.sqL q', o2 G2 R2 H2 g2 .refl _ (it_zipL q k q' k')⟩⟩
      | _ => exact False.elim o2
    | _ => exact False.elim o2
theorem pib_zTT (hg : Gl X "zip") (hm : X.mg "zip" = none) (ha : PEB X E lin .fz a fa) (hb : PEB X E lin .fz b fb) (hs : starEach [a, b] X.env = (false, eval a X.env) :: starEach [b] X.env := by rfl) (hs2 : starEach [b] X.env = (false, eval b X.env) :: starEach [] X.env := by rfl)
    (hpl : (backTo pos (starEach [b] X.env)).any (·.1) = false := by rfl) : PIB X E lin (.Tuple elts kk tpos) (.Call (.Name "zip" p) [a, b] [] pos) (iZ gT gT fa fb) :=
  impI (RZ.pi_zipA hg hm (pa_cons ha (pa_cons hb pa_nil hs2) hs) hs hpl) fun σ H Q ⟨G, R, τ, h, N0, gd, fr, o⟩ => by
    refine lE.then gd fr o fun x vx h1 G1 R1 H1 g1 e1 f1 r1 o1 => ?_
    refine lE.then g1 f1 o1 fun y vy h2 G2 R2 H2 g2 e2 f2 r2 o2 => ?_
    have r1' := e2.rp r1
    cases x with
    | tup ts =>
      cases y with
      | tup us =>
        cases r1' with
        | tup q k =>
          cases r2 with
          | tup q' k' => exact ⟨_, _, _, _, rfl, .inr ⟨g2.sqT q, g2.sqT q', o2 G2 R2 H2 g2 .refl _ (it_zipT q k q' k')⟩⟩
      | _ => exact False.elim o2
    | _ => exact False.elim o2
end
end GB
namespace GB
open PySem PySem.Spec PyProof.Rows L2

/-! ### the slots change -/
section
variable {K : PySem.W.Frag} {lin : List Nat} {G : Hp} {R : List Addr} {H : Hp} {h : IH} {τ : Ev} {σ : L2.St} {N0 : Addr → Prop} {i : Nat} {t : T} {v : V}
theorem get_set {α : Type} {l : List α} {i j : Nat} {a b : α} (e : (l.set i a)[j]? = some b) : (j = i ∧ b = a ∧ i < l.length) ∨ (j ≠ i ∧ l[j]? = some b) := by
  by_cases q : j = i
  · subst q
    by_cases hl : j < l.length
    · rw [List.getElem?_set_self hl] at e; cases e; exact .inl ⟨rfl, rfl, hl⟩
    · rw [List.getElem?_eq_none (by simpa using hl)] at e; cases e
  · rw [List.getElem?_set_ne (Ne.symm q)] at e; exact .inr ⟨q, e⟩
theorem Fr.put (f : Fr K lin G R H τ σ N0) (n : i ∉ lin) (r : Rp K G R t v) : Fr K lin G R H (τ.set i (some t)) (σ.set i (some v)) N0 where
  slot := fun j u e m => by
    rcases get_set e with ⟨rfl, q, hl⟩ | ⟨q, e⟩
    · cases q
      exact ⟨v, by rw [List.getElem?_set_self (by rw [← f.len]; exact hl)], r⟩
    · obtain ⟨w, h1, h2⟩ := f.slot j u e m
      exact ⟨w, by rw [List.getElem?_set_ne (Ne.symm q)]; exact h1, h2⟩
  own := fun j u e m => by
    rcases get_set e with ⟨rfl, q, hl⟩ | ⟨q, e⟩
    · exact absurd m n
    · obtain ⟨ts, a, xs, h1, h2, h3⟩ := f.own j u e m
      exact ⟨ts, a, xs, h1, by rw [List.getElem?_set_ne (Ne.symm q)]; exact h2, h3⟩
  apart := fun j k u w a e1 e2 m1 m2 s1 s2 => by
    rcases get_set e1 with ⟨rfl, q, hl⟩ | ⟨q1, e1⟩
    · exact absurd m1 n
    · rcases get_set e2 with ⟨rfl, q, hl⟩ | ⟨q2, e2⟩
      · exact absurd m2 n
      · rw [List.getElem?_set_ne (Ne.symm q1)] at s1
        rw [List.getElem?_set_ne (Ne.symm q2)] at s2
        exact f.apart j k u w a e1 e2 m1 m2 s1 s2
  len := by rw [List.length_set, List.length_set]; exact f.len
theorem Fr.putO (f : Fr K lin G R H τ σ N0) {a : Addr} {ts : List T} {xs : List V} (ha : H a = some (.lst xs)) (hg : G a = none) (hr : a ∉ R) (hn : N0 a) (r : RpL K G R ts xs)
    (ap : ∀ j u b, τ[j]? = some (some u) → j ∈ lin → σ[j]? = some (some (.ref b)) → b ≠ a) : Fr K (i :: lin) G R H (τ.set i (some (.lst ts))) (σ.set i (some (.ref a))) N0 where
  slot := fun j u e m => by
    rcases get_set e with ⟨rfl, q, hl⟩ | ⟨q, e⟩
    · exact absurd List.mem_cons_self m
    · obtain ⟨w, h1, h2⟩ := f.slot j u e fun z => m (List.mem_cons_of_mem _ z)
      exact ⟨w, by rw [List.getElem?_set_ne (Ne.symm q)]; exact h1, h2⟩
  own := fun j u e m => by
    rcases get_set e with ⟨rfl, q, hl⟩ | ⟨q, e⟩
    · cases q
      exact ⟨ts, a, xs, rfl, by rw [List.getElem?_set_self (by rw [← f.len]; exact hl)], ha, hg, hr, hn, r⟩
    · have m' : j ∈ lin := (List.mem_cons.mp m).elim (fun z => absurd z q) id
      obtain ⟨us, b, ys, h1, h2, h3⟩ := f.own j u e m'
      exact ⟨us, b, ys, h1, by rw [List.getElem?_set_ne (Ne.symm q)]; exact h2, h3⟩
  apart := fun j k u w b e1 e2 m1 m2 s1 s2 => by
    rcases get_set e1 with ⟨q1, _, hl⟩ | ⟨q1, e1⟩
    · rcases get_set e2 with ⟨q2, _, hl⟩ | ⟨q2, e2⟩
      · rw [q1, q2]
      · rw [q1, List.getElem?_set_self (by rw [← f.len]; exact hl)] at s1
        rw [List.getElem?_set_ne (Ne.symm q2)] at s2
        cases s1
        exact absurd rfl (ap k w a e2 ((List.mem_cons.mp m2).elim (fun z => absurd z q2) id) s2)
    · rcases get_set e2 with ⟨q2, _, hl⟩ | ⟨q2, e2⟩
      · rw [q2, List.getElem?_set_self (by rw [← f.len]; exact hl)] at s2
        rw [List.getElem?_set_ne (Ne.symm q1)] at s1
        cases s2
        exact absurd rfl (ap j u a e1 ((List.mem_cons.mp m1).elim (fun z => absurd z q1) id) s1)
      · rw [List.getElem?_set_ne (Ne.symm q1)] at s1
        rw [List.getElem?_set_ne (Ne.symm q2)] at s2
        exact f.apart j k u w b e1 e2 ((List.mem_cons.mp m1).elim (fun z => absurd z q1) id) ((List.mem_cons.mp m2).elim (fun z => absurd z q2) id) s1 s2
  len := by rw [List.length_set, List.length_set]; exact f.len
/-- a list that stands by itself is written -/
theorem Gd.wr (g : Gd K G R H h) {a : Addr} {o : HO} (hg : G a = none) (hr : a ∉ R) : Gd K G R (upd H a o) h where
  same := fun b u e => by
    have q : b ≠ a := fun z => by subst z; rw [hg] at e; cases e
    rw [upd_ne q]; exact g.same _ _ e
  off := g.off
  nd := g.nd
  len := g.len
  cell := fun n b c e1 e2 => by
    have q := g.cell n b c e1 e2
    have qb : b ≠ a := fun z => by subst z; exact hr (List.mem_of_getElem? e1)
    cases c with
    | lst us =>
      obtain ⟨xs, h1, h2⟩ := q
      exact ⟨xs, by rw [upd_ne qb]; exact h1, h2⟩
theorem Ext.wr {G' : Hp} {R' : List Addr} {H' : Hp} (e : Ext G R H G' R' H') {a : Addr} {o : HO} (n : H a = none) : Ext G R H G' R' (upd H' a o) where
  same := e.same
  pre := e.pre
  kept := fun b u q m => by rw [upd_ne (ne_of_none q n)]; exact e.kept b u q m
  gnew := e.gnew
  rnew := e.rnew
theorem Fr.wr (f : Fr K lin G R H τ σ N0) (m : i ∈ lin) {a : Addr} {us : List T} {ys : List V} (ht : ∃ u, τ[i]? = some (some u)) (hs : σ[i]? = some (some (.ref a))) (hg : G a = none) (hr : a ∉ R) (hn : N0 a) (r : RpL K G R us ys) :
    Fr K lin G R (upd H a (.lst ys)) (τ.set i (some (.lst us))) σ N0 where
  slot := fun j u e n => by
    rcases get_set e with ⟨rfl, _, _⟩ | ⟨q, e⟩
    · exact absurd m n
    · exact f.slot j u e n
  own := fun j u e mj => by
    rcases get_set e with ⟨rfl, q, hl⟩ | ⟨q, e⟩
    · cases q
      exact ⟨us, a, ys, rfl, hs, upd_same, hg, hr, hn, r⟩
    · obtain ⟨ts, b, xs, h1, h2, h3, h4⟩ := f.own j u e mj
      have nb : b ≠ a := fun z => by
        subst z
        obtain ⟨w, hw⟩ := ht
        exact q (f.apart j i u w b e hw mj m h2 hs)
      exact ⟨ts, b, xs, h1, h2, by rw [upd_ne nb]; exact h3, h4⟩
  apart := fun j k u w b e1 e2 m1 m2 s1 s2 => by
    have g1 : ∃ u, τ[j]? = some (some u) := by
      rcases get_set e1 with ⟨rfl, _, _⟩ | ⟨_, e⟩
      · exact ht
      · exact ⟨u, e⟩
    have g2 : ∃ u, τ[k]? = some (some u) := by
      rcases get_set e2 with ⟨rfl, _, _⟩ | ⟨_, e⟩
      · exact ht
      · exact ⟨w, e⟩
    obtain ⟨u', g1⟩ := g1
    obtain ⟨w', g2⟩ := g2
    exact f.apart j k u' w' b g1 g2 m1 m2 s1 s2
  len := by rw [List.length_set]; exact f.len
/-- the first of lin goes into the ground -/
theorem Fr.frz1 (f : Fr K (i :: lin) G R H τ σ N0) (g : Gd K G R H h) : ∃ G', Gd K G' R H h ∧ Same G G' ∧ (∀ b, G b = none → G' b ≠ none → N0 b) ∧ Fr K lin G' R H τ σ N0 := by
  by_cases mi : i ∈ lin
  · refine ⟨G, g, fun _ _ e => e, fun b n z => absurd n z, ⟨fun j u e n => f.slot j u e fun z => n ((List.mem_cons.mp z).elim (fun q => q ▸ mi) id), fun j u e m => f.own j u e (List.mem_cons_of_mem _ m), fun j k u w a e1 e2 m1 m2 => f.apart j k u w a e1 e2 (List.mem_cons_of_mem _ m1) (List.mem_cons_of_mem _ m2), f.len⟩⟩
  · by_cases ht : ∃ u, τ[i]? = some (some u)
    · obtain ⟨u, hu⟩ := ht
      obtain ⟨ts, a, xs, h1, h2, h3, h4, h5, h6, h7⟩ := f.own i u hu List.mem_cons_self
      obtain ⟨g2, s2⟩ := g.freeze h3 h4 h5
      refine ⟨_, g2, s2, fun b n z => ?_, ⟨fun j w e n => ?_, fun j w e m => ?_, fun j k w w' b e1 e2 m1 m2 => f.apart j k w w' b e1 e2 (List.mem_cons_of_mem _ m1) (List.mem_cons_of_mem _ m2), f.len⟩⟩
      · by_cases q : b = a
        · rw [q]; exact h6
        · rw [upd_ne q] at z; exact absurd n z
      · by_cases q : j = i
        · subst q
          rw [hu] at e; cases e
          exact ⟨_, h2, by rw [h1]; exact .lst (SqL.of upd_same) (h7.mono s2 (List.prefix_refl _))⟩
        · obtain ⟨v, h8, h9⟩ := f.slot j w e fun z => (List.mem_cons.mp z).elim q n
          exact ⟨v, h8, h9.mono s2 (List.prefix_refl _)⟩
      · obtain ⟨us, b, ys, k1, k2, k3, k4, k5, k6, k7⟩ := f.own j w e (List.mem_cons_of_mem _ m)
        have nb : b ≠ a := fun z => by
          subst z
          have q := f.apart j i w u b e hu (List.mem_cons_of_mem _ m) List.mem_cons_self k2 h2
          exact mi (q ▸ m)
        exact ⟨us, b, ys, k1, k2, k3, by rw [upd_ne nb]; exact k4, k5, k6, k7.mono s2 (List.prefix_refl _)⟩
    · refine ⟨G, g, fun _ _ e => e, fun b n z => absurd n z, ⟨fun j u e n => ?_, fun j u e m => f.own j u e (List.mem_cons_of_mem _ m), fun j k u w a e1 e2 m1 m2 => f.apart j k u w a e1 e2 (List.mem_cons_of_mem _ m1) (List.mem_cons_of_mem _ m2), f.len⟩⟩
      by_cases q : j = i
      · subst q; exact absurd ⟨u, e⟩ ht
      · exact f.slot j u e fun z => (List.mem_cons.mp z).elim q n
theorem Fr.frzAll : ∀ {lin : List Nat} {G : Hp}, Fr K lin G R H τ σ N0 → Gd K G R H h → ∃ G', Gd K G' R H h ∧ Same G G' ∧ (∀ b, G b = none → G' b ≠ none → N0 b) ∧ Fr K [] G' R H τ σ N0
  | [], G, f, g => ⟨G, g, fun _ _ e => e, fun b n z => absurd n z, f⟩
  | i :: l, G, f, g => by
    obtain ⟨G1, g1, s1, n1, f1⟩ := f.frz1 g
    obtain ⟨G2, g2, s2, n2, f2⟩ := Fr.frzAll f1 g1
    refine ⟨G2, g2, same_trans s1 s2, fun b n z => ?_, f2⟩
    by_cases q : G1 b = none
    · exact n2 b q z
    · exact n1 b n q
end

/-! ### targets -/
inductive Pat where
  | nm (i : Nat)
  | tp (is : List Nat)
def setAll : List Nat → List T → Ev → Option Ev
  | [], [], τ => some τ
  | i :: is, t :: ts, τ => setAll is ts (τ.set i (some t))
  | _, _, _ => none
def bindP : Pat → T → Ev → Option Ev
  | .nm i, t, τ => some (τ.set i (some t))
  | .tp is, .tup ts, τ => setAll is ts τ
  | .tp is, .lst ts, τ => setAll is ts τ
  | .tp _, _, _ => none
def Pat.vars : Pat → List Nat
  | .nm i => [i]
  | .tp is => is
def wipeT (τ : Ev) : List Nat → Ev
  | [] => τ
  | v :: vs => (wipeT τ vs).set v none
theorem wipeT_len (τ : Ev) : ∀ vs, (wipeT τ vs).length = τ.length
  | [] => rfl
  | v :: vs => by show ((wipeT τ vs).set v none).length = _; rw [List.length_set, wipeT_len τ vs]
theorem wipeT_some {τ : Ev} {i : Nat} {t : T} : ∀ {vs : List Nat}, (wipeT τ vs)[i]? = some (some t) → τ[i]? = some (some t) ∧ i ∉ vs
  | [], e => ⟨e, by simp⟩
  | v :: vs, e => by
    have e' : ((wipeT τ vs).set v none)[i]? = some (some t) := e
    rcases get_set e' with ⟨_, q, _⟩ | ⟨q, e2⟩
    · cases q
    · obtain ⟨h1, h2⟩ := wipeT_some e2
      exact ⟨h1, by simp only [List.mem_cons, not_or]; exact ⟨q, h2⟩⟩
theorem wipe_ne {σ : L2.St} {i : Nat} : ∀ {vs : List Nat}, i ∉ vs → (wipe σ vs)[i]? = σ[i]?
  | [], _ => rfl
  | v :: vs, n => by
    show ((wipe σ vs).set v none)[i]? = _
    rw [List.getElem?_set_ne (fun z => n (by rw [z]; exact List.mem_cons_self))]
    exact wipe_ne fun m => n (List.mem_cons_of_mem _ m)
theorem wipe_set {σ : L2.St} {i : Nat} {o : Option V} : ∀ {vs : List Nat}, i ∈ vs → wipe (σ.set i o) vs = wipe σ vs
  | v :: vs, m => by
    show (wipe (σ.set i o) vs).set v none = (wipe σ vs).set v none
    by_cases q : i ∈ vs
    · rw [wipe_set q]
    · have e : i = v := (List.mem_cons.mp m).elim id fun z => absurd z q
      subst e
      have step : ∀ {vs : List Nat} {σ : L2.St}, i ∉ vs → wipe (σ.set i o) vs = (wipe σ vs).set i o := by
        intro vs
        induction vs with
        | nil => intro σ _; rfl
        | cons w ws ih =>
          intro σ n
          show (wipe (σ.set i o) ws).set w none = ((wipe σ ws).set w none).set i o
          rw [ih fun m => n (List.mem_cons_of_mem _ m), List.set_comm _ _ (fun z => n (by rw [z]; exact List.mem_cons_self))]
      rw [step q, List.set_set]
section
variable {K : PySem.W.Frag} {lin : List Nat} {G : Hp} {R : List Addr} {H : Hp} {h : IH} {τ : Ev} {σ : L2.St} {N0 : Addr → Prop}
theorem Fr.wipe (f : Fr K lin G R H τ σ N0) (vs : List Nat) : Fr K lin G R H (wipeT τ vs) (L2.wipe σ vs) N0 where
  slot := fun i t e n => by
    obtain ⟨h1, h2⟩ := wipeT_some e
    obtain ⟨v, h3, h4⟩ := f.slot i t h1 n
    exact ⟨v, by rw [wipe_ne h2]; exact h3, h4⟩
  own := fun i t e m => by
    obtain ⟨h1, h2⟩ := wipeT_some e
    obtain ⟨ts, a, xs, h3, h4, h5⟩ := f.own i t h1 m
    exact ⟨ts, a, xs, h3, by rw [wipe_ne h2]; exact h4, h5⟩
  apart := fun i j t u a e1 e2 m1 m2 s1 s2 => by
    obtain ⟨h1, h2⟩ := wipeT_some e1
    obtain ⟨h3, h4⟩ := wipeT_some e2
    rw [wipe_ne h2] at s1
    rw [wipe_ne h4] at s2
    exact f.apart i j t u a h1 h3 m1 m2 s1 s2
  len := by rw [wipeT_len, wipe_length]; exact f.len
/-- a target's rule serves a pattern -/
def GOk (K : PySem.W.Frag) (lin : List Nat) (pt : Pat) (g : TG) : Prop := ∀ (t : T) (v : V) (τ τ' : Ev) (σ : L2.St) (G : Hp) (R : List Addr) (H : Hp) (h : IH) (N0 : Addr → Prop) (Q : L2.St → Hp → Prop), Gd K G R H h → Fr K lin G R H τ σ N0 → Rp K G R t v → bindP pt t τ = some τ' →
  (∀ σ', Fr K lin G R H τ' σ' N0 → (∀ vs, (∀ i ∈ pt.vars, i ∈ vs) → L2.wipe σ' vs = L2.wipe σ vs) → Q σ' H) → g v σ H Q
theorem gok_nm {i : Nat} (n : lin.contains i = false) : GOk K lin (.nm i) (gName i) := by
  intro t v τ τ' σ G R H h N0 Q g f r e k
  cases e
  have nl : i ∉ lin := fun m => by rw [List.contains_iff_mem.mpr m] at n; cases n
  exact k _ (f.put nl r) fun vs m => wipe_set (m i (by simp [Pat.vars]))
def GsOk (K : PySem.W.Frag) (lin : List Nat) (is : List Nat) (g : TGs) : Prop := ∀ (ts : List T) (vs : List V) (τ τ' : Ev) (σ : L2.St) (G : Hp) (R : List Addr) (H : Hp) (h : IH) (N0 : Addr → Prop) (Q : L2.St → Hp → Prop), Gd K G R H h → Fr K lin G R H τ σ N0 → RpL K G R ts vs → setAll is ts τ = some τ' →
  (∀ σ', Fr K lin G R H τ' σ' N0 → (∀ vs, (∀ i ∈ is, i ∈ vs) → L2.wipe σ' vs = L2.wipe σ vs) → Q σ' H) → g vs σ H Q
theorem gsok_nil : GsOk K lin [] gNil := by
  intro ts vs τ τ' σ G R H h N0 Q g f r e k
  cases r with
  | nil => cases e; exact ⟨rfl, k σ f fun _ _ => rfl⟩
  | cons _ _ => cases e
theorem gsok_cons {i : Nat} {is : List Nat} {gs : TGs} (n : lin.contains i = false) (hr : GsOk K lin is gs) : GsOk K lin (i :: is) (gCons (gName i) gs) := by
  intro ts vs τ τ' σ G R H h N0 Q g f r e k
  have nl : i ∉ lin := fun m => by rw [List.contains_iff_mem.mpr m] at n; cases n
  cases r with
  | nil => cases e
  | cons r1 r2 =>
    refine ⟨_, _, rfl, ?_⟩
    exact hr _ _ _ τ' _ G R H h N0 Q g (f.put nl r1) r2 e fun σ' f' w => k σ' f' fun vs m => (w vs fun j mj => m j (List.mem_cons_of_mem _ mj)).trans (wipe_set (m i List.mem_cons_self))
theorem setAll_len : ∀ {is : List Nat} {ts : List T} {τ τ' : Ev}, setAll is ts τ = some τ' → ts.length = is.length
  | [], [], _, _, _ => rfl
  | _ :: is, _ :: ts, τ, τ', e => by rw [List.length_cons, List.length_cons, setAll_len (is := is) (ts := ts) e]
  | [], _ :: _, _, _, e => by cases e
  | _ :: _, [], _, _, e => by cases e
/-- of a tuple or a list -/
def gTL (K : PySem.W.Frag) (n : Nat) (t : TGs) : TG := fun v σ H Q => gTup K n t v σ H Q ∨ gUnl K n t v σ H Q
theorem pg_tl {X : Cx} {es : List Expr} {kk : Nat} {t : TGs} {n : Nat} {pos : Pos} (hc : X.calm = true) (h : PGs X es t)
    (hn : (assignEach es X.env).length = n := by rfl) (hst : (assignEach es X.env).findIdx? (·.1) = none := by rfl) : PG X (.Tuple es kk pos) (gTL X.K n t) :=
  ⟨fun pins s σ H v u Q I r hw => hw.elim (fun q => (pg_tup hc h hn hst).run pins s σ H v u Q I r q) fun q => (pg_unl hc h hn hst).run pins s σ H v u Q I r q⟩
theorem gok_tp {is : List Nat} {gs : TGs} {n : Nat} (hn : is.length = n) (hr : GsOk K lin is gs) : GOk K lin (.tp is) (gTL K n gs) := by
  intro t v τ τ' σ G R H h N0 Q g f r e k
  cases t with
  | tup ts =>
    cases r with
    | tup q r => exact .inl ⟨_, _, rfl, g.sqT q, by rw [← r.len, ← hn]; exact setAll_len e, hr _ _ _ τ' _ G R H h N0 Q g f r e k⟩
  | lst ts =>
    cases r with
    | lst q r => exact .inr ⟨_, _, rfl, g.sqL q, by rw [← r.len, ← hn]; exact setAll_len e, hr _ _ _ τ' _ G R H h N0 Q g f r e k⟩
  | _ => cases e
end

/-! ### comprehensions -/
def nx {α : Type} (r : Rs α) : Rs α :=
  match r with
  | .ok a h => .ok a h
  | _ => .no
theorem nx_ok {α : Type} {r : Rs α} {a : α} {h : IH} (e : nx r = .ok a h) : r = .ok a h := by
  cases r <;> cases e; rfl
def sTrue : SB := fun _ h => .ok true h
def lcGo (pt : Pat) (cond : SB) (elt : SE) (τw : Ev) : List T → IH → Rs (List T)
  | [], h => .ok [] h
  | t :: ts, h =>
    match bindP pt t τw with
    | none => .no
    | some τ1 => (nx (cond τ1 h)).bind fun b h1 => if b = true then (nx (elt τ1 h1)).bind fun y h2 => (lcGo pt cond elt τw ts h2).bind fun ys h3 => .ok (y :: ys) h3 else lcGo pt cond elt τw ts h1
def eLc (it : SI) (own : List Nat) (pt : Pat) (cond : SB) (elt : SE) : SE := fun τ h => (it τ h).bind fun ts h1 => (lcGo pt cond elt (wipeT τ own) ts h1).bind fun ys h2 => if ts.length ≤ sizeLine then .ok (.lst ys) h2 else .no
theorem bind_ok {α β : Type} {r : Rs α} {f : α → IH → Rs β} {b : β} {h : IH} (e : r.bind f = .ok b h) : ∃ a h1, r = .ok a h1 ∧ f a h1 = .ok b h := by
  cases r with
  | ok a h1 => exact ⟨a, h1, rfl, e⟩
  | exc x h1 => cases e
  | no => cases e
theorem lcGo_noexc {pt : Pat} {cond : SB} {elt : SE} {τ : Ev} : ∀ (ts : List T) (h : IH) (x : Ex) (h' : IH), lcGo pt cond elt τ ts h ≠ .exc x h'
  | [], h, x, h' => fun z => by cases z
  | t :: ts, h, x, h' => fun z => by
    unfold lcGo at z
    split at z
    · cases z
    · rename_i τ1 _
      cases c : nx (cond τ1 h) with
      | ok b h1 =>
        rw [c] at z
        have z' : (if b = true then (nx (elt τ1 h1)).bind fun y h2 => (lcGo pt cond elt τ ts h2).bind fun ys h3 => .ok (y :: ys) h3 else lcGo pt cond elt τ ts h1) = Rs.exc x h' := z
        split at z'
        · cases d : nx (elt τ1 h1) with
          | ok y h2 =>
            rw [d] at z'
            have z2 : ((lcGo pt cond elt τ ts h2).bind fun ys h3 => Rs.ok (y :: ys) h3) = Rs.exc x h' := z'
            cases q : lcGo pt cond elt τ ts h2 with
            | ok ys h3 => rw [q] at z2; cases z2
            | exc x2 h3 => exact lcGo_noexc ts h2 x2 h3 q
            | no => rw [q] at z2; cases z2
          | exc x2 h3 => cases q : elt τ1 h1 <;> rw [q] at d <;> cases d
          | no => rw [d] at z'; cases z'
        · exact lcGo_noexc ts h1 x h' z'
      | exc x2 h3 => cases q : cond τ1 h <;> rw [q] at c <;> cases c
      | no => rw [c] at z; cases z
theorem lcGo_len {pt : Pat} {cond : SB} {elt : SE} {τ : Ev} : ∀ {ts : List T} {h : IH} {ys : List T} {h' : IH}, lcGo pt cond elt τ ts h = .ok ys h' → ys.length ≤ ts.length
  | [], h, ys, h', e => by cases e; exact Nat.le_refl _
  | t :: ts, h, ys, h', e => by
    unfold lcGo at e
    split at e
    · cases e
    · obtain ⟨b, h1, e1, e2⟩ := bind_ok e
      split at e2
      · obtain ⟨y, h2, e3, e4⟩ := bind_ok e2
        obtain ⟨zs, h3, e5, e6⟩ := bind_ok e4
        cases e6
        have := lcGo_len e5
        simp only [List.length_cons]; omega
      · have := lcGo_len e2
        simp only [List.length_cons]; omega
abbrev W0 : WX := fun _ _ _ _ => False
theorem lc_go {K : PySem.W.Frag} {mg : Str → Option Value} {E : WX} {lin : List Nat} {it : SI} {own : List Nat} {pt : Pat} {cond : SB} {elt : SE} {g : TG} {tt : TT} (hg : GOk K lin pt g) (hv : ∀ i ∈ pt.vars, i ∈ own) (ht : ∀ σ H Q, lB K mg W0 lin cond σ H Q → tt σ H Q) (σ : L2.St) (H : Hp) (Q : VK) (hq : lE K mg E lin .own (eLc it own pt cond elt) σ H Q) :
    tLc (lI K mg E lin it) g tt (lE K mg W0 lin .fz elt) own σ H Q := by
  obtain ⟨G, R, τ, h, N0, gd, fr, o⟩ := hq
  refine ⟨G, R, τ, h, N0, gd, fr, ?_⟩
  unfold eLc at o
  cases e : it τ h with
  | no => rw [e] at o; exact o
  | exc x h1 => rw [e] at o; exact o
  | ok ts h1 =>
    rw [e] at o
    intro G1 R1 H1 g1 e1 J jk D nD
    have o1 : Out K mg (fun c d H' => E c d σ H') G R H ((lcGo pt cond elt (wipeT τ own) ts h1).bind fun ys h2 => if ts.length ≤ sizeLine then .ok (.lst ys) h2 else .no) (fun t G' R' H' => ∀ v, Res K .own H t v G' R' H' → Q v H') := o
    cases ec : lcGo pt cond elt (wipeT τ own) ts h1 with
    | no => rw [ec] at o1; exact o1.elim
    | exc x h2 => exact absurd ec (lcGo_noexc _ _ _ _)
    | ok ys hf =>
      rw [ec] at o1
      have o2 : Out K mg (fun c d H' => E c d σ H') G R H (if ts.length ≤ sizeLine then Rs.ok (T.lst ys) hf else .no) (fun t G' R' H' => ∀ v, Res K .own H t v G' R' H' → Q v H') := o1
      split at o2
      · rename_i hsz
        refine ⟨fun i m H2 => m = ts.length - i ∧ i ≤ ts.length ∧ ∃ G2 R2 h2 acc accV zs, Gd K G2 R2 H2 h2 ∧ Ext G1 R1 H1 G2 R2 H2 ∧ H2 D = some (.lst accV) ∧ G2 D = none ∧ D ∉ R2 ∧ RpL K G2 R2 acc accV ∧ acc.length ≤ i ∧ lcGo pt cond elt (wipeT τ own) (ts.drop i) h2 = .ok zs hf ∧ acc ++ zs = ys, ⟨ts.length, ?_⟩, ?_⟩
        · obtain ⟨g2, e2, n2, m2⟩ := g1.newO (o := .lst []) nD
          exact ⟨rfl, Nat.zero_le _, G1, R1, h1, [], [], ys, g2, e2, upd_same, n2, m2, .nil, Nat.le_refl _, ec, rfl⟩
        · rintro i m H2 ⟨rfl, hi, G2, R2, h2, acc, accV, zs, g2, e2, hD, nG, nR, ra, la, el, es⟩
          by_cases hlt : i < ts.length
          · refine .inr ⟨jk.go i G2 R2 H2 h2 g2 e2.same e2.pre hlt, fun H' => ∃ G3 R3 h3 acc accV zs, Gd K G3 R3 H' h3 ∧ Ext G1 R1 H1 G3 R3 H' ∧ H' D = some (.lst accV) ∧ G3 D = none ∧ D ∉ R3 ∧ RpL K G3 R3 acc accV ∧ acc.length ≤ i + 1 ∧ lcGo pt cond elt (wipeT τ own) (ts.drop (i + 1)) h3 = .ok zs hf ∧ acc ++ zs = ys, fun H' hN => ⟨ts.length - (i + 1), by omega, rfl, hlt, hN⟩, fun x H' y => ?_⟩
            have ed : ts.drop i = ts[i] :: ts.drop (i + 1) := List.drop_eq_getElem_cons hlt
            rw [ed] at el
            obtain ⟨G3, g3, e3, rx⟩ := jk.yld i ts[i] G2 R2 H2 h2 x H' g2 e2.same e2.pre (List.getElem?_eq_getElem hlt) y
            have hD3 : H' D = some (.lst accV) := e3.kept D _ hD nR
            have nG3 : G3 D = none := by
              cases q : G3 D with
              | none => rfl
              | some u => have z := e3.gnew D nG (by rw [q]; exact fun z => nomatch z); rw [hD] at z; cases z
            have e13 := e2.trans g1 g3 e3
            unfold lcGo at el
            split at el
            · cases el
            · rename_i τ1 eb
              refine hg ts[i] x (wipeT τ own) τ1 (L2.wipe σ own) G3 R2 H' h2 N0 _ g3 ((((fr.ext e1).ext e2).ext e3).wipe own) rx eb fun σ' f' hw => ⟨(hw own hv).trans ?_, ?_⟩
              · have ww : ∀ (l : List Nat) (s : L2.St), (∀ j ∈ l, j ∈ own) → L2.wipe (L2.wipe s l) own = L2.wipe s own := by
                  intro l
                  induction l with
                  | nil => intro s _; rfl
                  | cons j l ih =>
                    intro s hl
                    show L2.wipe ((L2.wipe s l).set j none) own = _
                    rw [wipe_set (hl j List.mem_cons_self)]
                    exact ih s fun k mk => hl k (List.mem_cons_of_mem _ mk)
                exact ww own σ fun _ m => m
              · obtain ⟨b, h4, ecd, e5⟩ := bind_ok el
                have ecd := nx_ok ecd
                refine ht σ' H' _ ⟨G3, R2, τ1, h2, N0, g3, f', ?_⟩
                rw [ecd]
                intro G4 R4 H4 g4 e4
                have hD4 : H4 D = some (.lst accV) := e4.kept D _ hD3 nR
                have nG4 : G4 D = none := by
                  cases q : G4 D with
                  | none => rfl
                  | some u => have z := e4.gnew D nG3 (by rw [q]; exact fun z => nomatch z); rw [hD3] at z; cases z
                have nR4 : D ∉ R4 := fun m => (e4.rnew D m).elim nR fun z => by rw [hD3] at z; cases z
                have e14 := e13.trans g1 g4 e4
                cases b with
                | true =>
                  refine L2.iteT ?_
                  rw [if_pos rfl] at e5
                  obtain ⟨yy, h5, ee, e6⟩ := bind_ok e5
                  have ee := nx_ok ee
                  obtain ⟨zs', h6, ez, e7⟩ := bind_ok e6
                  cases e7
                  refine ⟨G4, R4, τ1, h4, N0, g4, f'.ext e4, ?_⟩
                  rw [ee]
                  intro G5 R5 H5 g5 e5 v rv
                  have hD5 : H5 D = some (.lst accV) := e5.kept D _ hD4 nR4
                  have nG5 : G5 D = none := by
                    cases q : G5 D with
                    | none => rfl
                    | some u => have z := e5.gnew D nG4 (by rw [q]; exact fun z => nomatch z); rw [hD4] at z; cases z
                  have nR5 : D ∉ R5 := fun m => (e5.rnew D m).elim nR4 fun z => by rw [hD4] at z; cases z
                  have e15 := e14.trans g1 g5 e5
                  have ra5 := e5.rpl (e4.rpl (e3.rpl ra))
                  refine ⟨accV, hD5, by rw [← ra.len]; omega, G5, R5, h5, acc ++ [yy], accV ++ [v], zs', g5.wr nG5 nR5, e15.wr nD, upd_same, nG5, nR5, ra5.append (.cons rv .nil), by simp; omega, ez, by rw [List.append_assoc]; exact es⟩
                | false =>
                  refine L2.iteF ?_
                  rw [if_neg Bool.false_ne_true] at e5
                  exact ⟨G4, R4, h4, acc, accV, zs, g4, e14, hD4, nG4, nR4, e4.rpl (e3.rpl ra), by omega, e5, es⟩
          · have ei : i = ts.length := by omega
            subst ei
            refine .inl ⟨jk.stop _ G2 R2 H2 h2 g2 e2.same e2.pre (Nat.le_refl _), ?_⟩
            rw [List.drop_length] at el
            cases el
            rw [List.append_nil] at es
            subst es
            exact o2 G2 R2 H2 g2 (e1.trans gd g2 e2) _ ⟨acc, D, accV, rfl, rfl, hD, nR, nG, e1.free g1 nD, ra⟩
      · exact o2.elim
section
variable {X : Cx} {E : WX} {lin : List Nat} {elt tg iter : Expr} {ifs : List Expr} {scope : Scope} {own : List (Str × Nat)} {pos : Pos} {it : SI} {pt : Pat} {cond : SB} {ee : SE} {g : TG} {tt : TT}
theorem pb_lc (hc : X.calm = true) (hN : X.N.Nodup) (hi : PIB X E lin tg iter it) (ok : BlkOk X.N X.env.scope scope own) (hgo : GOk X.K lin pt g) (hv : ∀ i ∈ pt.vars, i ∈ own.map (·.2)) (htt : ∀ σ H Q, lB X.K X.mg W0 lin cond σ H Q → tt σ H Q)
    (hg : ∀ (s : Shared) (H : Hp) (C : Addr) (cl : List (Str × Addr)) (fp : List Addr), PG (X.blk s H scope (compEnvC scope cl C X.env) fp) tg g) (ht : ∀ (s : Shared) (H : Hp) (C : Addr) (cl : List (Str × Addr)) (fp : List Addr), PTs (X.blk s H scope (compEnvC scope cl C X.env) fp) ifs tt)
    (he : ∀ (s : Shared) (H : Hp) (C : Addr) (cl : List (Str × Addr)) (fp : List Addr), PEB (X.blk s H scope (compEnvC scope cl C X.env) fp) W0 lin .fz elt ee) (hs : ∀ x, foldedSetIterable iter X.env x = pure x := by intro _; rfl) :
    PEB X E lin .own (.ListComp elt [⟨tg, iter, ifs, 0⟩] scope pos) (eLc it (own.map (·.2)) pt cond ee) :=
  impE (pe_lc (te := lE X.K X.mg W0 lin .fz ee) hc hN hi ok hg ht (fun s H C cl fp => he s H C cl fp) hs) fun σ H Q q => lc_go hgo hv htt σ H Q q
theorem tt_yes {K : PySem.W.Frag} {mg : Str → Option Value} (σ : L2.St) (H : Hp) (Q : Bool → Hp → Prop) : lB K mg W0 lin sTrue σ H Q → tYes σ H Q := fun ⟨G, R, τ, h, N0, gd, fr, o⟩ => o G R H gd .refl
end
end GB
namespace GB
open PySem PySem.Spec PyProof.Rows L2

/-! ### statements -/
inductive Fl where
  | nx (τ : Ev) (h : IH)
  | rt (t : T) (h : IH)
  | exc (x : Ex) (τ : Ev) (h : IH)
  | no
abbrev SS := Ev → IH → Fl
/-- a def's activation: the ground, the boxes, the heap at its entry -/
structure Ent where
  G : Hp
  R : List Addr
  H : Hp
structure FrS (K : PySem.W.Frag) (en : Ent) (lin : List Nat) (G : Hp) (R : List Addr) (H : Hp) (h : IH) (τ : Ev) (σ : L2.St) : Prop where
  gd : Gd K G R H h
  ext : Ext en.G en.R en.H G R H
  fr : Fr K lin G R H τ σ (fun a => en.H a = none)
  gd0 : ∃ h0, Gd K en.G en.R en.H h0
def OutS (K : PySem.W.Frag) (mg : Str → Option Value) (E : WX) (en : Ent) (rk : Kd) (lin' : List Nat) (G : Hp) (R : List Addr) (r : Fl) (D : Ends) : Prop :=
  match r with
  | .nx τ' h' => ∀ G' R' H' σ', FrS K en lin' G' R' H' h' τ' σ' → Same G G' → R <+: R' → D.nx σ' H'
  | .rt t h' => ∀ G' R' H' v, Gd K G' R' H' h' → Ext en.G en.R en.H G' R' H' → Res K rk en.H t v G' R' H' → D.rt v H'
  | .exc x τ' h' => ∀ G' R' H' σ' c d, FrS K en [] G' R' H' h' τ' σ' → XR K mg x c d G' R' H' → E c d σ' H'
  | .no => False
def lS (K : PySem.W.Frag) (mg : Str → Option Value) (E : WX) (en : Ent) (rk : Kd) (lin lin' : List Nat) (g : SS) : TS := fun D σ H =>
  ∃ G R τ h, FrS K en lin G R H h τ σ ∧ OutS K mg E en rk lin' G R (g τ h) D
def PSB (X : Cx) (E : WX) (en : Ent) (rk : Kd) (lin lin' : List Nat) (st : Stmt) (g : SS) : Prop := PS X st (lS X.K X.mg E en rk lin lin' g)
def PSsB (X : Cx) (E : WX) (en : Ent) (rk : Kd) (lin lin' : List Nat) (st : List Stmt) (g : SS) : Prop := PSs X st (lS X.K X.mg E en rk lin lin' g)
/-- an outcome of a part, then the rest -/
def Rs.fl {α : Type} (r : Rs α) (τ : Ev) (k : α → IH → Fl) : Fl :=
  match r with
  | .ok a h => k a h
  | .exc x h => .exc x τ h
  | .no => .no
section
variable {K : PySem.W.Frag} {mg : Str → Option Value} {E : WX} {en : Ent} {rk kd : Kd} {lin lin' : List Nat} {G G' : Hp} {R R' : List Addr} {H H' : Hp} {h h' : IH} {τ : Ev} {σ : L2.St} {D : Ends}
theorem OutS.on {r : Fl} (s : Same G G') (p : R <+: R') (o : OutS K mg E en rk lin' G R r D) : OutS K mg E en rk lin' G' R' r D := by
  cases r with
  | nx τ' h' => exact fun G2 R2 H2 σ2 f s2 p2 => o G2 R2 H2 σ2 f (same_trans s s2) (p.trans p2)
  | rt t h' => exact o
  | exc x τ' h' => exact o
  | no => exact o
theorem FrS.on (f : FrS K en lin G R H h τ σ) (g : Gd K G' R' H' h') (e : Ext G R H G' R' H') : FrS K en lin G' R' H' h' τ σ :=
  let ⟨_, g0⟩ := f.gd0; ⟨g, f.ext.trans g0 g e, f.fr.ext e, f.gd0⟩
theorem XR.grow {x : Ex} {c : Value} {d : Option Addr} (s : Same G G') (q : XR K mg x c d G R H) : XR K mg x c d G' R H := by
  obtain ⟨C, h1, h2, h3⟩ := q
  refine ⟨C, h1, h2, ?_⟩
  split at h3
  · exact h3
  · obtain ⟨dd, fs, h4, h5, h6, h7, h8⟩ := h3
    exact ⟨dd, fs, h4, h5, h6, h7, h8.mono s (List.prefix_refl _)⟩
theorem FrS.frz (f : FrS K en lin G R H h τ σ) : ∃ G', FrS K en [] G' R H h τ σ ∧ Same G G' := by
  obtain ⟨G', g', s', n', f'⟩ := f.fr.frzAll f.gd
  exact ⟨G', ⟨g', ⟨same_trans f.ext.same s', f.ext.pre, f.ext.kept, fun b n z => if q : G b = none then n' b q z else f.ext.gnew b n q, f.ext.rnew⟩, f', f.gd0⟩, s'⟩
theorem lE.thenS {f : SE} {k : T → IH → Fl} {Q : VK} (fs : FrS K en lin G R H h τ σ) (o : OutS K mg E en rk lin' G R ((f τ h).fl τ k) D)
    (hq : ∀ t v h1 G1 R1 H1, FrS K en lin G1 R1 H1 h1 τ σ → Ext G R H G1 R1 H1 → Res K kd H t v G1 R1 H1 → OutS K mg E en rk lin' G1 R1 (k t h1) D → Q v H1) : lE K mg E lin kd f σ H Q := by
  refine ⟨G, R, τ, h, _, fs.gd, fs.fr, ?_⟩
  cases e : f τ h with
  | ok t h1 =>
    rw [e] at o
    exact fun G1 R1 H1 g1 e1 v r => hq t v h1 G1 R1 H1 (fs.on g1 e1) e1 r (OutS.on e1.same e1.pre o)
  | exc x h1 =>
    rw [e] at o
    intro G1 R1 H1 c d g1 e1 q
    obtain ⟨G2, f2, s2⟩ := (fs.on g1 e1).frz
    exact o G2 R1 H1 σ c d f2 (q.grow s2)
  | no => rw [e] at o; exact o
theorem lB.thenS {f : SB} {k : Bool → IH → Fl} {Q : Bool → Hp → Prop} (fs : FrS K en lin G R H h τ σ) (o : OutS K mg E en rk lin' G R ((f τ h).fl τ k) D)
    (hq : ∀ b h1 G1 R1 H1, FrS K en lin G1 R1 H1 h1 τ σ → Ext G R H G1 R1 H1 → OutS K mg E en rk lin' G1 R1 (k b h1) D → Q b H1) : lB K mg E lin f σ H Q := by
  refine ⟨G, R, τ, h, _, fs.gd, fs.fr, ?_⟩
  cases e : f τ h with
  | ok t h1 =>
    rw [e] at o
    exact fun G1 R1 H1 g1 e1 => hq t h1 G1 R1 H1 (fs.on g1 e1) e1 (OutS.on e1.same e1.pre o)
  | exc x h1 =>
    rw [e] at o
    intro G1 R1 H1 c d g1 e1 q
    obtain ⟨G2, f2, s2⟩ := (fs.on g1 e1).frz
    exact o G2 R1 H1 σ c d f2 (q.grow s2)
  | no => rw [e] at o; exact o
theorem lA.thenS {f : SA} {k : List T → IH → Fl} {Q : List V → Hp → Prop} (fs : FrS K en lin G R H h τ σ) (o : OutS K mg E en rk lin' G R ((f τ h).fl τ k) D)
    (hq : ∀ ts vs h1 G1 R1 H1, FrS K en lin G1 R1 H1 h1 τ σ → Ext G R H G1 R1 H1 → RpL K G1 R1 ts vs → OutS K mg E en rk lin' G1 R1 (k ts h1) D → Q vs H1) : lA K mg E lin f σ H Q := by
  refine ⟨G, R, τ, h, _, fs.gd, fs.fr, ?_⟩
  cases e : f τ h with
  | ok t h1 =>
    rw [e] at o
    exact fun G1 R1 H1 g1 e1 v r => hq t v h1 G1 R1 H1 (fs.on g1 e1) e1 r (OutS.on e1.same e1.pre o)
  | exc x h1 =>
    rw [e] at o
    intro G1 R1 H1 c d g1 e1 q
    obtain ⟨G2, f2, s2⟩ := (fs.on g1 e1).frz
    exact o G2 R1 H1 σ c d f2 (q.grow s2)
  | no => rw [e] at o; exact o
theorem lI.thenS {f : SI} {k : List T → IH → Fl} {Q : It → Hp → Prop} (fs : FrS K en lin G R H h τ σ) (o : OutS K mg E en rk lin' G R ((f τ h).fl τ k) D)
    (hq : ∀ ts J h1 G1 R1 H1, FrS K en lin G1 R1 H1 h1 τ σ → Ext G R H G1 R1 H1 → ItOk K G1 R1 J ts → OutS K mg E en rk lin' G1 R1 (k ts h1) D → Q J H1) : lI K mg E lin f σ H Q := by
  refine ⟨G, R, τ, h, _, fs.gd, fs.fr, ?_⟩
  cases e : f τ h with
  | ok t h1 =>
    rw [e] at o
    exact fun G1 R1 H1 g1 e1 J r => hq t J h1 G1 R1 H1 (fs.on g1 e1) e1 r (OutS.on e1.same e1.pre o)
  | exc x h1 =>
    rw [e] at o
    intro G1 R1 H1 c d g1 e1 q
    obtain ⟨G2, f2, s2⟩ := (fs.on g1 e1).frz
    exact o G2 R1 H1 σ c d f2 (q.grow s2)
  | no => rw [e] at o; exact o
end
/-! #### blocks, if, return, expressions -/
def sSkip : SS := fun τ h => .nx τ h
def sSeq (f g : SS) : SS := fun τ h =>
  match f τ h with
  | .nx τ' h' => g τ' h'
  | r => r
def sIf (c : SB) (f g : SS) : SS := fun τ h => (c τ h).fl τ fun b h1 => if b = true then f τ h1 else g τ h1
def sRet (f : SE) : SS := fun τ h => (f τ h).fl τ fun t h1 => .rt t h1
def sExpr (f : SE) : SS := fun τ h => (f τ h).fl τ fun _ h1 => .nx τ h1
section
variable {X : Cx} {E : WX} {en : Ent} {rk kd : Kd} {lin lin1 lin' : List Nat} {st : Stmt} {sts rest a' b' : List Stmt} {f g : SS} {e a b c : Expr} {fa fb : SE} {sc : SB} {pos : Pos}
theorem pssb_nil : PSsB X E en rk lin lin [] sSkip := impSs pss_nil fun D σ H ⟨G, R, τ, h, fs, o⟩ => o G R H σ fs (fun _ _ e => e) (List.prefix_refl _)
theorem pssb_cons (h1 : PSB X E en rk lin lin1 st f) (h2 : PSsB X E en rk lin1 lin' rest g) : PSsB X E en rk lin lin' (st :: rest) (sSeq f g) := impSs (pss_cons h1 h2) fun D σ H ⟨G, R, τ, h, fs, o⟩ => by
  refine ⟨G, R, τ, h, fs, ?_⟩
  unfold sSeq at o
  cases e : f τ h with
  | nx τ' h' =>
    rw [e] at o
    exact fun G' R' H' σ' fs' s' p' => ⟨G', R', τ', h', fs', OutS.on s' p' o⟩
  | rt t h' => rw [e] at o; exact o
  | exc x τ' h' => rw [e] at o; exact o
  | no => rw [e] at o; exact o
theorem pssb_one (h1 : PSB X E en rk lin lin' st f) : PSsB X E en rk lin lin' [st] f := pss_one h1
theorem psb_if (hc : PTB X E lin c sc) (ha : PSsB X E en rk lin lin' a' f) (hb : PSsB X E en rk lin lin' b' g) : PSB X E en rk lin lin' (.If c a' b' pos) (sIf sc f g) := impS (ps_if hc ha hb) fun D σ H ⟨G, R, τ, h, fs, o⟩ => by
  refine lB.thenS fs o fun x h1 G1 R1 H1 f1 e1 o1 => ?_
  cases x with
  | true => exact ⟨G1, R1, τ, h1, f1, o1⟩
  | false => exact ⟨G1, R1, τ, h1, f1, o1⟩
theorem psb_ret (ha : PEB X E lin kd a fa) (hk : ∀ K H t v G R H', Res K kd H t v G R H' → Res K rk H t v G R H') : PSB X E en rk lin lin' (.Return (some a) pos) (sRet fa) := impS (ps_ret ha) fun D σ H ⟨G, R, τ, h, fs, o⟩ => by
  refine lE.thenS fs o fun t v h1 G1 R1 H1 f1 e1 r1 o1 => ?_
  obtain ⟨h0, g0⟩ := fs.gd0
  exact o1 G1 R1 H1 v f1.gd f1.ext (Res.back fs.gd fs.ext (hk _ _ _ _ _ _ _ r1))
theorem rid {K : PySem.W.Frag} {kd : Kd} {H : Hp} {t : T} {v : V} {G : Hp} {R : List Addr} {H' : Hp} (h : Res K kd H t v G R H') : Res K kd H t v G R H' := h
/-- return of a list of the def's own -/
theorem psb_retO (i : Nat) {x : Str} {p : Pos} (hl : lin.contains i = true) (hN : X.N[i]? = some x := by rfl) (hv : Vis X.env.scope x := by first | exact Or.inl rfl | exact Or.inr (Or.inl rfl) | exact Or.inr (Or.inr rfl)) (hd : (x == ("__debug__" : Str)) = false := by decide)
    (hcd : (x == ("__classdict__" : Str)) = false := by decide) : PSB X E en .own lin lin' (.Return (some (.Name x p)) pos) (sRet (eV i)) := impS (ps_ret (pe_var hN hv hd hcd)) fun D σ H ⟨G, R, τ, h, fs, o⟩ => by
  unfold sRet eV at o
  split at o
  · rename_i t e
    obtain ⟨ts, a, xs, h1, h2, h3, h4, h5, h6, h7⟩ := fs.fr.own i t e (List.contains_iff_mem.mp hl)
    exact ⟨_, h2, o G R H _ fs.gd fs.ext ⟨ts, a, xs, h1, rfl, h3, h5, h4, h6, h7⟩⟩
  · exact o.elim
/-- a list of the def's own, read as one of the ground from here on -/
theorem psb_frz (ha : PSB X E en rk lin lin' st f) {i : Nat} : PSB X E en rk (i :: lin) lin' st f := impS ha fun D σ H ⟨G, R, τ, h, fs, o⟩ => by
  obtain ⟨G', g', s', n', f'⟩ := fs.fr.frz1 fs.gd
  exact ⟨G', R, τ, h, ⟨g', ⟨same_trans fs.ext.same s', fs.ext.pre, fs.ext.kept, fun b n z => if q : G b = none then n' b q z else fs.ext.gnew b n q, fs.ext.rnew⟩, f', fs.gd0⟩, OutS.on s' (List.prefix_refl _) o⟩
theorem pssb_frz (ha : PSsB X E en rk lin lin' sts f) {i : Nat} : PSsB X E en rk (i :: lin) lin' sts f := impSs ha fun D σ H ⟨G, R, τ, h, fs, o⟩ => by
  obtain ⟨G', g', s', n', f'⟩ := fs.fr.frz1 fs.gd
  exact ⟨G', R, τ, h, ⟨g', ⟨same_trans fs.ext.same s', fs.ext.pre, fs.ext.kept, fun b n z => if q : G b = none then n' b q z else fs.ext.gnew b n q, fs.ext.rnew⟩, f', fs.gd0⟩, OutS.on s' (List.prefix_refl _) o⟩
theorem psb_expr (ha : PEB X E lin kd a fa) (hs : swapsWith a none pos.line X.env = pure false := by rfl) : PSB X E en rk lin lin (.Expr a pos) (sExpr fa) := impS (ps_expr ha hs) fun D σ H ⟨G, R, τ, h, fs, o⟩ => by
  refine lE.thenS fs o fun t v h1 G1 R1 H1 f1 e1 r1 o1 => o1 G1 R1 H1 σ f1 (fun _ _ e => e) (List.prefix_refl _)
end
/-! #### stores -/
def sSet (i : Nat) (f : SE) : SS := fun τ h => (f τ h).fl τ fun t h1 => .nx (τ.set i (some t)) h1
def sTp (pt : Pat) (f : SE) : SS := fun τ h => (f τ h).fl τ fun t h1 =>
  match bindP pt t τ with
  | some τ' => .nx τ' h1
  | none => .no
def sPar (is : List Nat) (f : SA) : SS := fun τ h => (f τ h).fl τ fun ts h1 =>
  match setAll is ts τ with
  | some τ' => .nx τ' h1
  | none => .no
section
variable {X : Cx} {E : WX} {en : Ent} {rk kd : Kd} {lin lin1 lin' : List Nat} {st : Stmt} {sts rest a' b' : List Stmt} {f g : SS} {e a b c : Expr} {fa fb : SE} {fs : SA} {sc : SB} {pos pos' : Pos} {i j l : Nat} {x y z : Str}
theorem set_go {te : TE} (hte : ∀ σ H Q, lE X.K X.mg E lin .fz fa σ H Q → te σ H Q) (hl : lin.contains i = false) (D : Ends) (σ : L2.St) (H : Hp) (q : lS X.K X.mg E en rk lin lin (sSet i fa) D σ H) : tAsg te (gName i) D σ H := by
  obtain ⟨G, R, τ, h, fs, o⟩ := q
  have nl : i ∉ lin := fun m => by rw [List.contains_iff_mem.mpr m] at hl; cases hl
  refine hte σ H _ (lE.thenS fs o fun t v h1 G1 R1 H1 f1 e1 r1 o1 => ?_)
  exact o1 G1 R1 H1 _ ⟨f1.gd, f1.ext, f1.fr.put nl r1, f1.gd0⟩ (fun _ _ e => e) (List.prefix_refl _)
theorem setO_go {te : TE} (hte : ∀ σ H Q, lE X.K X.mg E lin .own fa σ H Q → te σ H Q) (D : Ends) (σ : L2.St) (H : Hp) (q : lS X.K X.mg E en rk lin (i :: lin) (sSet i fa) D σ H) : tAsg te (gName i) D σ H := by
  obtain ⟨G, R, τ, h, fs, o⟩ := q
  refine hte σ H _ (lE.thenS (kd := .own) fs o fun t v h1 G1 R1 H1 f1 e1 r1 o1 => ?_)
  obtain ⟨ts, p, xs, rfl, rfl, h3, h4, h5, h6, h7⟩ := r1
  refine o1 G1 R1 H1 _ ⟨f1.gd, f1.ext, f1.fr.putO h3 h5 h4 (fs.ext.free fs.gd h6) h7 fun j u b e m s z => ?_, f1.gd0⟩ (fun _ _ e => e) (List.prefix_refl _)
  subst z
  obtain ⟨us, b', ys, k1, k2, k3, _⟩ := fs.fr.own j u e m
  rw [s] at k2; cases k2
  rw [h6] at k3; cases k3
theorem psb_set (hl : lin.contains i = false) (hN : X.N.Nodup) (hi : X.N[i]? = some x) (hx : Loc X.env.scope x) (ha : PEB X E lin .fz a fa) (hs : swapsWith a (some (.Name x pos')) pos.line X.env = pure false := by rfl) (hf : X.fn x = true ∨ X.env.scope.names.lookup x = some .local := by first | exact .inl rfl | exact .inr rfl | assumption) :
    PSB X E en rk lin lin (.Assign [.Name x pos'] a pos) (sSet i fa) := impS (ps_set hN hi hx ha hs hf) fun D σ H q => set_go (fun _ _ _ q => q) hl D σ H q
theorem psb_setO (hN : X.N.Nodup) (hi : X.N[i]? = some x) (hx : Loc X.env.scope x) (ha : PEB X E lin .own a fa) (hs : swapsWith a (some (.Name x pos')) pos.line X.env = pure false := by rfl) (hf : X.fn x = true ∨ X.env.scope.names.lookup x = some .local := by first | exact .inl rfl | exact .inr rfl | assumption) :
    PSB X E en rk lin (i :: lin) (.Assign [.Name x pos'] a pos) (sSet i fa) := impS (ps_set hN hi hx ha hs hf) fun D σ H q => setO_go (fun _ _ _ q => q) D σ H q
theorem psb_tp {pt : Pat} {tg : Expr} {gg : TG} (ha : PEB X E lin .fz a fa) (hgo : GOk X.K lin pt gg) (hg : PG X tg gg) (hs : swapsWithSole [tg] a pos.line X.env = pure false := by rfl) (hw : swappedStores [tg] a X.env = pure none := by rfl) (h1 : (assignEach [tg] X.env).map (·.2) = [assign tg X.env] := by rfl) :
    PSB X E en rk lin lin (.Assign [tg] a pos) (sTp pt fa) := impS (ps_asg ha hg hs hw h1) fun D σ H ⟨G, R, τ, h, fs, o⟩ => by
  refine lE.thenS fs o fun t v h1 G1 R1 H1 f1 e1 r1 o1 => ?_
  cases q : bindP pt t τ with
  | none => rw [q] at o1; exact o1.elim
  | some τ' =>
    rw [q] at o1
    exact hgo t v τ τ' σ G1 R1 H1 h1 _ _ f1.gd f1.fr r1 q fun σ' f' _ => o1 G1 R1 H1 σ' ⟨f1.gd, f1.ext, f', f1.gd0⟩ (fun _ _ e => e) (List.prefix_refl _)
theorem psb_par {px py pt : Pos} {kt k2 pt2} (hc : X.calm = true) (hN : X.N.Nodup) (hl : lin.contains i = false) (hl2 : lin.contains j = false) (hi : X.N[i]? = some x) (hj : X.N[j]? = some y) (hij : i ≠ j) (hx : X.env.scope.names.lookup x = some .local) (hy : X.env.scope.names.lookup y = some .local)
    (ha : PAB X E lin [a, b] fs) (hw : swappedStores [.Tuple [.Name x px, .Name y py] kt pt] (.Tuple [a, b] k2 pt2) X.env = pure (some [x, y])) (hs : swapsWithSole [.Tuple [.Name x px, .Name y py] kt pt] (.Tuple [a, b] k2 pt2) pos.line X.env = pure false := by rfl) :
    PSB X E en rk lin lin (.Assign [.Tuple [.Name x px, .Name y py] kt pt] (.Tuple [a, b] k2 pt2) pos) (sPar [i, j] fs) := impS (ps_par hc hN hi hj hij hx hy ha hw hs) fun D σ H ⟨G, R, τ, h, fr, o⟩ => by
  refine lA.thenS fr o fun ts vs h1 G1 R1 H1 f1 e1 r1 o1 => ?_
  have nl : i ∉ lin := fun m => by rw [List.contains_iff_mem.mpr m] at hl; cases hl
  have nl2 : j ∉ lin := fun m => by rw [List.contains_iff_mem.mpr m] at hl2; cases hl2
  cases r1 with
  | nil => exact False.elim o1
  | cons r2 r3 =>
    cases r3 with
    | nil => exact False.elim o1
    | cons r4 r5 =>
      cases r5 with
      | nil => exact ⟨_, _, rfl, o1 G1 R1 H1 _ ⟨f1.gd, f1.ext, (f1.fr.put nl r2).put nl2 r4, f1.gd0⟩ (fun _ _ e => e) (List.prefix_refl _)⟩
      | cons _ _ => exact False.elim o1
end
/-! #### name = [..] on one row -/
section
variable {X : Cx} {E : WX} {en : Ent} {rk kd : Kd} {lin : List Nat} {elt tg iter : Expr} {ifs : List Expr} {scope : Scope} {own : List (Str × Nat)} {pos spos py : Pos} {it : SI} {pt : Pat} {cond : SB} {ee : SE} {g : TG} {tt : TT} {i : Nat} {y : Str}
theorem psb_setLcO (hc : X.calm = true) (hN : X.N.Nodup) (hy : X.N[i]? = some y) (hyl : X.env.scope.names.lookup y = some .local) (hsw : swapsWith (.ListComp elt [⟨tg, iter, ifs, 0⟩] scope pos) (some (.Name y py)) spos.line X.env = pure true)
    (hi : PIB X E lin tg iter it) (ok : BlkOk X.N X.env.scope scope own) (hgo : GOk X.K lin pt g) (hv : ∀ i ∈ pt.vars, i ∈ own.map (·.2)) (htt : ∀ σ H Q, lB X.K X.mg W0 lin cond σ H Q → tt σ H Q)
    (hg : ∀ (s : Shared) (H : Hp) (C : Addr) (cl : List (Str × Addr)) (fp : List Addr), PG (X.blk s H scope (compEnvC scope cl C X.env) fp) tg g) (ht : ∀ (s : Shared) (H : Hp) (C : Addr) (cl : List (Str × Addr)) (fp : List Addr), PTs (X.blk s H scope (compEnvC scope cl C X.env) fp) ifs tt)
    (he : ∀ (s : Shared) (H : Hp) (C : Addr) (cl : List (Str × Addr)) (fp : List Addr), PEB (X.blk s H scope (compEnvC scope cl C X.env) fp) W0 lin .fz elt ee) (hs : ∀ x, foldedSetIterable iter X.env x = pure x := by intro _; rfl) :
    PSB X E en rk lin (i :: lin) (.Assign [.Name y py] (.ListComp elt [⟨tg, iter, ifs, 0⟩] scope pos) spos) (sSet i (eLc it (own.map (·.2)) pt cond ee)) :=
  impS (ps_setLc (te := lE X.K X.mg W0 lin .fz ee) hc hN hy hyl hsw hi ok hg ht (fun s H C cl fp => he s H C cl fp) hs) fun D σ H q => setO_go (fun σ H Q q => lc_go hgo hv htt σ H Q q) D σ H q
end
/-! #### loops -/
def forGo (pt : Pat) (body : SS) : List T → Ev → IH → Fl
  | [], τ, h => .nx τ h
  | t :: ts, τ, h =>
    match bindP pt t τ with
    | none => .no
    | some τ1 =>
      match body τ1 h with
      | .nx τ2 h2 => forGo pt body ts τ2 h2
      | r => r
def sFor (it : SI) (pt : Pat) (body : SS) : SS := fun τ h => (it τ h).fl τ fun ts h1 => forGo pt body ts τ h1
def whN (c : SB) (body : SS) : Nat → Ev → IH → Fl
  | 0, _, _ => .no
  | n + 1, τ, h => (c τ h).fl τ fun b h1 => if b = true then (match body τ h1 with
    | .nx τ2 h2 => whN c body n τ2 h2
    | r => r) else .nx τ h1
def Fl.isNo : Fl → Prop
  | .no => True
  | _ => False
open Classical in
noncomputable def sWh (c : SB) (body : SS) : SS := fun τ h => if q : ∃ n, ¬ (whN c body n τ h).isNo then whN c body q.choose τ h else .no
theorem whN_mono {c : SB} {body : SS} : ∀ {n : Nat} {τ : Ev} {h : IH}, ¬ (whN c body n τ h).isNo → whN c body (n + 1) τ h = whN c body n τ h
  | 0, τ, h, q => absurd trivial q
  | n + 1, τ, h, q => by
    unfold whN at q ⊢
    cases e : c τ h with
    | no => rfl
    | exc x h1 => rfl
    | ok b h1 =>
      rw [e] at q
      cases b with
      | false => rfl
      | true =>
        have q' : ¬ (match body τ h1 with | .nx τ2 h2 => whN c body n τ2 h2 | r => r).isNo := q
        show (match body τ h1 with | .nx τ2 h2 => whN c body (n + 1) τ2 h2 | r => r) = (match body τ h1 with | .nx τ2 h2 => whN c body n τ2 h2 | r => r)
        cases e2 : body τ h1 with
        | nx τ2 h2 => rw [e2] at q'; exact whN_mono q'
        | rt t h2 => rfl
        | exc x τ2 h2 => rfl
        | no => rfl
theorem whN_le {c : SB} {body : SS} {n m : Nat} {τ : Ev} {h : IH} (q : ¬ (whN c body n τ h).isNo) (l : n ≤ m) : whN c body m τ h = whN c body n τ h := by
  induction l with
  | refl => rfl
  | step _ ih => exact (whN_mono (by rw [ih]; exact q)).trans ih
theorem sWh_of {c : SB} {body : SS} {n : Nat} {τ : Ev} {h : IH} (q : ¬ (whN c body n τ h).isNo) : sWh c body τ h = whN c body n τ h := by
  have e : ∃ n, ¬ (whN c body n τ h).isNo := ⟨n, q⟩
  unfold sWh
  rw [dif_pos e]
  rcases Nat.le_total e.choose n with l | l
  · exact (whN_le e.choose_spec l).symm
  · exact whN_le q l
/-- the loop is over -/
theorem sWh_done {c : SB} {body : SS} {τ : Ev} {h h1 : IH} (e : c τ h = .ok false h1) : sWh c body τ h = .nx τ h1 := by
  have q : whN c body 1 τ h = .nx τ h1 := by unfold whN; rw [e]; rfl
  rw [sWh_of (n := 1) (by rw [q]; exact id), q]
/-- one turn -/
theorem sWh_turn {c : SB} {body : SS} {τ τ2 : Ev} {h h1 h2 : IH} (e : c τ h = .ok true h1) (e2 : body τ h1 = .nx τ2 h2) : sWh c body τ h = sWh c body τ2 h2 := by
  have step : ∀ n, whN c body (n + 1) τ h = whN c body n τ2 h2 := fun n => by
    rw [show whN c body (n + 1) τ h = (c τ h).fl τ fun b h1 => if b = true then (match body τ h1 with
    | .nx τ2 h2 => whN c body n τ2 h2
    | r => r) else .nx τ h1 from rfl]
    rw [e]
    show (if true = true then (match body τ h1 with | .nx τ2 h2 => whN c body n τ2 h2 | r => r) else Fl.nx τ h1) = whN c body n τ2 h2
    rw [if_pos rfl, e2]
  by_cases q : ∃ n, ¬ (whN c body n τ2 h2).isNo
  · obtain ⟨n, q⟩ := q
    rw [sWh_of q, sWh_of (n := n + 1) (by rw [step]; exact q), step]
  · have q2 : ¬ ∃ n, ¬ (whN c body n τ h).isNo := fun ⟨n, z⟩ => by
      cases n with
      | zero => exact z trivial
      | succ n => rw [step] at z; exact q ⟨n, z⟩
    unfold sWh
    rw [dif_neg q, dif_neg q2]
theorem sWh_ret {c : SB} {body : SS} {τ : Ev} {h h1 h2 : IH} {t : T} (e : c τ h = .ok true h1) (e2 : body τ h1 = .rt t h2) : sWh c body τ h = .rt t h2 := by
  have q : whN c body 1 τ h = .rt t h2 := by
    unfold whN
    rw [e]
    show (if true = true then (match body τ h1 with | .nx τ2 h2 => whN c body 0 τ2 h2 | r => r) else Fl.nx τ h1) = .rt t h2
    rw [if_pos rfl, e2]
  rw [sWh_of (n := 1) (by rw [q]; exact id), q]
section
variable {X : Cx} {E : WX} {en : Ent} {rk kd : Kd} {lin : List Nat} {body : List Stmt} {tg iter c : Expr} {pos : Pos} {it : SI} {pt : Pat} {sc : SB} {sb : SS} {g : TG}
theorem psb_for (hp : PassesOwn (model X.prog X.w) X.A X.env X.xe) (hc : X.calm = true) (hi : PIB X E lin tg iter it) (hgo : GOk X.K lin pt g) (hg : PG X tg g) (hb : PSsB X E en rk lin lin body sb) (hs : ∀ x, foldedSetIterable iter X.env x = pure x := by intro _; rfl) :
    PSB X E en rk lin lin (.For tg iter body [] pos) (sFor it pt sb) := impS (ps_for hp hc hi hg hb hs) fun D σ H ⟨G, R, τ, h, fs, o⟩ => by
  refine lI.thenS fs o fun ts J h1 G1 R1 H1 f1 e1 jk o1 => ?_
  refine ⟨fun i m σ H => m = ts.length - i ∧ i ≤ ts.length ∧ ∃ G2 R2 τ2 h2, FrS X.K en lin G2 R2 H h2 τ2 σ ∧ Same G1 G2 ∧ R1 <+: R2 ∧ OutS X.K X.mg E en rk lin G2 R2 (forGo pt sb (ts.drop i) τ2 h2) D, ⟨ts.length, rfl, Nat.zero_le _, G1, R1, τ, h1, f1, fun _ _ e => e, List.prefix_refl _, o1⟩, ?_⟩
  rintro i m σ2 H2 ⟨rfl, hi, G2, R2, τ2, h2, f2, s2, p2, o2⟩
  by_cases hlt : i < ts.length
  · refine .inr ⟨jk.go i G2 R2 H2 h2 f2.gd s2 p2 hlt, fun σ' H' => ∃ G3 R3 τ3 h3, FrS X.K en lin G3 R3 H' h3 τ3 σ' ∧ Same G1 G3 ∧ R1 <+: R3 ∧ OutS X.K X.mg E en rk lin G3 R3 (forGo pt sb (ts.drop (i + 1)) τ3 h3) D, fun σ' H' hN => ⟨ts.length - (i + 1), by omega, rfl, hlt, hN⟩, fun x H' y => ?_⟩
    rw [List.drop_eq_getElem_cons hlt] at o2
    obtain ⟨G3, g3, e3, rx⟩ := jk.yld i ts[i] G2 R2 H2 h2 x H' f2.gd s2 p2 (List.getElem?_eq_getElem hlt) y
    have f3 := f2.on g3 e3
    unfold forGo at o2
    cases eb : bindP pt ts[i] τ2 with
    | none => rw [eb] at o2; exact o2.elim
    | some τ3 =>
      rw [eb] at o2
      refine hgo ts[i] x τ2 τ3 σ2 G3 R2 H' h2 _ _ g3 f3.fr rx eb fun σ3 f4 _ => ?_
      refine ⟨G3, R2, τ3, h2, ⟨g3, f3.ext, f4, f3.gd0⟩, ?_⟩
      have o3 : OutS X.K X.mg E en rk lin G3 R2 (match sb τ3 h2 with | .nx τ2 h2 => forGo pt sb (ts.drop (i + 1)) τ2 h2 | r => r) D := OutS.on e3.same e3.pre o2
      cases es : sb τ3 h2 with
      | nx τ4 h4 =>
        rw [es] at o3
        exact fun G' R' H' σ' f' s' p' => ⟨G', R', τ4, h4, f', same_trans s2 (same_trans e3.same s'), p2.trans p', OutS.on s' p' o3⟩
      | rt t h4 => rw [es] at o3; exact o3
      | exc x τ4 h4 => rw [es] at o3; exact o3
      | no => rw [es] at o3; exact o3
  · have ei : i = ts.length := by omega
    subst ei
    rw [List.drop_length] at o2
    exact .inl ⟨jk.stop _ G2 R2 H2 h2 f2.gd s2 p2 (Nat.le_refl _), o2 G2 R2 H2 σ2 f2 (fun _ _ e => e) (List.prefix_refl _)⟩
theorem psb_while (hp : PassesOwn (model X.prog X.w) X.A X.env X.xe) (hc : PTB X E lin c sc) (hb : PSsB X E en rk lin lin body sb) : PSB X E en rk lin lin (.While c body [] pos) (sWh sc sb) := impS (ps_while hp hc hb) fun D σ H ⟨G, R, τ, h, fs, o⟩ => by
  by_cases q : ∃ n, ¬ (whN sc sb n τ h).isNo
  · obtain ⟨n, q⟩ := q
    rw [sWh_of q] at o
    refine ⟨fun m σ H => ∃ G2 R2 τ2 h2, FrS X.K en lin G2 R2 H h2 τ2 σ ∧ OutS X.K X.mg E en rk lin G2 R2 (whN sc sb m τ2 h2) D, ⟨n, G, R, τ, h, fs, o⟩, ?_⟩
    rintro m σ2 H2 ⟨G2, R2, τ2, h2, f2, o2⟩
    cases m with
    | zero => exact False.elim o2
    | succ m =>
      refine lB.thenS f2 o2 fun b h3 G3 R3 H3 f3 e3 o3 => ?_
      cases b with
      | false => exact L2.iteF (o3 G3 R3 H3 σ2 f3 (fun _ _ e => e) (List.prefix_refl _))
      | true =>
        refine L2.iteT ⟨fun σ' H' => ∃ G4 R4 τ4 h4, FrS X.K en lin G4 R4 H' h4 τ4 σ' ∧ OutS X.K X.mg E en rk lin G4 R4 (whN sc sb m τ4 h4) D, fun σ' H' hN => ⟨m, Nat.lt_succ_self _, hN⟩, ?_⟩
        refine ⟨G3, R3, τ2, h3, f3, ?_⟩
        have o4 : OutS X.K X.mg E en rk lin G3 R3 (match sb τ2 h3 with | .nx τ2 h2 => whN sc sb m τ2 h2 | r => r) D := o3
        cases es : sb τ2 h3 with
        | nx τ4 h4 =>
          rw [es] at o4
          exact fun G' R' H' σ' f' s' p' => ⟨G', R', τ4, h4, f', OutS.on s' p' o4⟩
        | rt t h4 => rw [es] at o4; exact o4
        | exc x τ4 h4 => rw [es] at o4; exact o4
        | no => rw [es] at o4; exact o4
  · unfold sWh at o
    rw [dif_neg q] at o
    exact o.elim
end
end GB
namespace GB
open PySem PySem.Spec PyProof.Rows L2

/-! ### lists changed in place -/
def sApp (i : Nat) (f : SE) : SS := fun τ h =>
  match τ[i]? with
  | some (some (.lst ts)) => (f τ h).fl τ fun t h1 => if ts.length < sizeLine then .nx (τ.set i (some (.lst (ts ++ [t])))) h1 else .no
  | _ => .no
def sAppB (b f : SE) : SS := fun τ h => (b τ h).fl τ fun x h1 => (f τ h1).fl τ fun t h2 =>
  match x with
  | .box n => match h2[n]? with
    | some (.lst ts) => if ts.length < sizeLine then .nx τ (h2.set n (.lst (ts ++ [t]))) else .no
    | _ => .no
  | _ => .no
def sPut (i : Nat) (fi fv : SE) : SS := fun τ h => (fv τ h).fl τ fun t h1 =>
  match τ[i]? with
  | some (some (.lst ts)) => (fi τ h1).fl τ fun k h2 =>
    match k with
    | .int k => match ixN ts.length k with
      | some j => .nx (τ.set i (some (.lst (ts.set j t)))) h2
      | none => .no
    | _ => .no
  | _ => .no
/-- no argument: clear, reverse -/
def sMut (i : Nat) (w : List T → List T) : SS := fun τ h =>
  match τ[i]? with
  | some (some (.lst ts)) => .nx (τ.set i (some (.lst (w ts)))) h
  | _ => .no
def sExt (i : Nat) (f : SE) : SS := fun τ h =>
  match τ[i]? with
  | some (some (.lst ts)) => (f τ h).fl τ fun t h1 =>
    match t with
    | .lst us => if ts.length + us.length ≤ sizeLine then .nx (τ.set i (some (.lst (ts ++ us)))) h1 else .no
    | _ => .no
  | _ => .no
def sPutB (fb fi fv : SE) : SS := fun τ h => (fv τ h).fl τ fun t h1 => (fb τ h1).fl τ fun x h2 => (fi τ h2).fl τ fun k h3 =>
  match x, k with
  | .box n, .int k => match h3[n]? with
    | some (.lst ts) => match ixN ts.length k with
      | some j => .nx τ (h3.set n (.lst (ts.set j t)))
      | none => .no
    | _ => .no
  | _, _ => .no
section
variable {K : PySem.W.Frag} {mg : Str → Option Value} {E : WX} {en : Ent} {rk kd : Kd} {lin lin' : List Nat} {G G' : Hp} {R R' : List Addr} {H H' : Hp} {h h' : IH} {τ : Ev} {σ : L2.St} {D : Ends} {i : Nat}
/-- a list of the def's own is written -/
theorem FrS.wr (f : FrS K en lin G R H h τ σ) (m : i ∈ lin) {a : Addr} {t : T} {us : List T} {ys : List V} (ht : τ[i]? = some (some t)) (hs : σ[i]? = some (some (.ref a))) (r : RpL K G R us ys) : FrS K en lin G R (upd H a (.lst ys)) h (τ.set i (some (.lst us))) σ := by
  obtain ⟨ts, b, xs, h1, h2, h3, h4, h5, h6, h7⟩ := f.fr.own i t ht m
  rw [hs] at h2; cases h2
  exact ⟨f.gd.wr h4 h5, f.ext.wr h6, f.fr.wr m ⟨t, ht⟩ hs h4 h5 h6 r, f.gd0⟩
/-- a box is written -/
theorem FrS.wrB (f : FrS K en lin G R H h τ σ) {n : Nat} {a : Addr} {us ts : List T} {ys : List V} (hn : R[n]? = some a) (hc : h[n]? = some (.lst ts)) (r : RpL K G R us ys) : FrS K en lin G R (upd H a (.lst ys)) (h.set n (.lst us)) τ σ := by
  have ma : a ∈ R := List.mem_of_getElem? hn
  have na : G a = none := f.gd.off a ma
  have hln : n < h.length := (List.getElem?_eq_some_iff.mp hc).1
  refine ⟨⟨fun b u e => ?_, f.gd.off, f.gd.nd, by rw [List.length_set]; exact f.gd.len, fun k b c e1 e2 => ?_⟩, ⟨f.ext.same, f.ext.pre, fun b u e nb => ?_, f.ext.gnew, f.ext.rnew⟩, ⟨f.fr.slot, fun j u e mj => ?_, f.fr.apart, f.fr.len⟩, f.gd0⟩
  · have q : b ≠ a := fun z => by subst z; rw [na] at e; cases e
    rw [upd_ne q]; exact f.gd.same _ _ e
  · rcases get_set e2 with ⟨rfl, rfl, _⟩ | ⟨q, e2⟩
    · rw [hn] at e1; cases e1
      exact ⟨ys, upd_same, r⟩
    · have nb : b ≠ a := fun z => by
        subst z
        have h1 := (List.getElem?_eq_some_iff.mp e1)
        have h2 := (List.getElem?_eq_some_iff.mp hn)
        exact q ((List.getElem_inj f.gd.nd).mp (h1.2.trans h2.2.symm))
      have q := f.gd.cell k b c e1 e2
      cases c with
      | lst ws =>
        obtain ⟨xs, k1, k2⟩ := q
        exact ⟨xs, by rw [upd_ne nb]; exact k1, k2⟩
  · have q : b ≠ a := fun z => by
      subst z
      rcases f.ext.rnew b ma with m | z
      · exact nb m
      · rw [e] at z; cases z
    rw [upd_ne q]; exact f.ext.kept b u e nb
  · obtain ⟨ws, b, xs, h1, h2, h3, h4, h5, h6⟩ := f.fr.own j u e mj
    have q : b ≠ a := fun z => h5 (z ▸ ma)
    exact ⟨ws, b, xs, h1, h2, by rw [upd_ne q]; exact h3, h4, h5, h6⟩
end
section
variable {X : Cx} {E : WX} {en : Ent} {rk kd k1 : Kd} {lin lin1 lin' : List Nat} {o a b c : Expr} {fo fa fb : SE} {pos pos' apos cpos tpos : Pos} {i j l : Nat} {x y z : Str}
theorem psb_app (hl : lin.contains i = true) (ha : PEB X E lin .fz a fa) (hN : X.N[i]? = some x := by rfl) (hv : Vis X.env.scope x := by first | exact Or.inl rfl | exact Or.inr (Or.inl rfl) | exact Or.inr (Or.inr rfl)) (hd : (x == ("__debug__" : Str)) = false := by decide) (hcd : (x == ("__classdict__" : Str)) = false := by decide)
    (hbase : attributeBase (.Name x pos') "append" X.env (eval (.Name x pos') X.env) = eval (.Name x pos') X.env := by rfl)
    (hfew : ((backTo cpos (starEach [a] X.env)).all (fun x => !x.1) && (backToKw cpos (keywordEach [] X.env)).all (fun x => x.1.isSome) && decide ([a].length + ([] : List Keyword).length + (if ([] : List Keyword).isEmpty then 0 else 1) < 30)) = true := by rfl)
    (hline : (apos.endLine == cpos.line) = true := by rfl) (hs : starEach [a] X.env = (false, eval a X.env) :: starEach [] X.env := by rfl) (hplain : (backTo cpos (starEach [] X.env)).any (·.1) = false := by rfl)
    (hsw : swapsWith (.Call (.Attribute (.Name x pos') "append" apos) [a] [] cpos) none pos.line X.env = pure false := by rfl) :
    PSB X E en rk lin lin (.Expr (.Call (.Attribute (.Name x pos') "append" apos) [a] [] cpos) pos) (sApp i fa) :=
  impS (ps_expr (pe_bm PySem.F.plainAttrs_list PySem.F.slot_list_append PySem.F.type_list_append mt_append (pe_var hN hv hd hcd) (pa_cons ha pa_nil hs) hbase hfew hline hs hplain) hsw) fun D σ H ⟨G, R, τ, h, fs, o⟩ => by
    have m : i ∈ lin := List.contains_iff_mem.mp hl
    unfold sApp at o
    split at o
    · rename_i ts e
      obtain ⟨us, p, xs, q1, h2, h3, h4, h5, h6, h7⟩ := fs.fr.own i _ e m
      cases q1
      refine ⟨_, h2, .inl ⟨rfl, xs, SqL.of h3⟩, ?_⟩
      refine lE.thenS fs o fun t v h1 G1 R1 H1 f1 e1 r1 o1 => ?_
      split at o1
      · rename_i hz
        have k3 := e1.kept p _ h3 h5
        refine ⟨p, xs, v, rfl, rfl, k3, by rw [← h7.len]; exact hz, ?_⟩
        exact o1 G1 R1 _ σ (f1.wr m e h2 ((e1.rpl h7).append (.cons r1 .nil))) (fun _ _ e => e) (List.prefix_refl _)
      · exact o1.elim
    · exact o.elim
theorem psb_ext (hl : lin.contains i = true) (ha : PEB X E lin .own a fa) (hN : X.N[i]? = some x := by rfl) (hv : Vis X.env.scope x := by first | exact Or.inl rfl | exact Or.inr (Or.inl rfl) | exact Or.inr (Or.inr rfl)) (hd : (x == ("__debug__" : Str)) = false := by decide) (hcd : (x == ("__classdict__" : Str)) = false := by decide)
    (hbase : attributeBase (.Name x pos') "extend" X.env (eval (.Name x pos') X.env) = eval (.Name x pos') X.env := by rfl)
    (hfew : ((backTo cpos (starEach [a] X.env)).all (fun x => !x.1) && (backToKw cpos (keywordEach [] X.env)).all (fun x => x.1.isSome) && decide ([a].length + ([] : List Keyword).length + (if ([] : List Keyword).isEmpty then 0 else 1) < 30)) = true := by rfl)
    (hline : (apos.endLine == cpos.line) = true := by rfl) (hs : starEach [a] X.env = (false, eval a X.env) :: starEach [] X.env := by rfl) (hplain : (backTo cpos (starEach [] X.env)).any (·.1) = false := by rfl)
    (hsw : swapsWith (.Call (.Attribute (.Name x pos') "extend" apos) [a] [] cpos) none pos.line X.env = pure false := by rfl) :
    PSB X E en rk lin lin (.Expr (.Call (.Attribute (.Name x pos') "extend" apos) [a] [] cpos) pos) (sExt i fa) :=
  impS (ps_expr (pe_bm PySem.F.plainAttrs_list PySem.F.slot_list_extend PySem.F.type_list_extend mt_extend (pe_var hN hv hd hcd) (pa_cons ha pa_nil hs) hbase hfew hline hs hplain) hsw) fun D σ H ⟨G, R, τ, h, fs, o⟩ => by
    have m : i ∈ lin := List.contains_iff_mem.mp hl
    unfold sExt at o
    split at o
    · rename_i ts e
      obtain ⟨us, p, xs, q1, h2, h3, h4, h5, h6, h7⟩ := fs.fr.own i _ e m
      cases q1
      refine ⟨_, h2, .inl ⟨rfl, xs, SqL.of h3⟩, ?_⟩
      refine lE.thenS (kd := .own) fs o fun t v h1 G1 R1 H1 f1 e1 r1 o1 => ?_
      obtain ⟨ws, q, zs, rfl, rfl, k3, k4, k5, k6, k7⟩ := r1
      have o2 : OutS X.K X.mg E en rk lin G1 R1 (if ts.length + ws.length ≤ sizeLine then Fl.nx (τ.set i (some (.lst (ts ++ ws)))) h1 else .no) D := o1
      split at o2
      · rename_i hz
        have j3 := e1.kept p _ h3 h5
        refine ⟨p, q, xs, zs, rfl, rfl, j3, k3, by rw [← h7.len, ← k7.len]; exact hz, ?_⟩
        exact o2 G1 R1 _ σ (f1.wr m e h2 ((e1.rpl h7).append k7)) (fun _ _ e => e) (List.prefix_refl _)
      · exact o2.elim
    · exact o.elim
theorem psb_clear (hl : lin.contains i = true) (hN : X.N[i]? = some x := by rfl) (hv : Vis X.env.scope x := by first | exact Or.inl rfl | exact Or.inr (Or.inl rfl) | exact Or.inr (Or.inr rfl)) (hd : (x == ("__debug__" : Str)) = false := by decide) (hcd : (x == ("__classdict__" : Str)) = false := by decide)
    (hbase : attributeBase (.Name x pos') "clear" X.env (eval (.Name x pos') X.env) = eval (.Name x pos') X.env := by rfl) (hline : (apos.endLine == cpos.line) = true := by rfl) (hsw : swapsWith (.Call (.Attribute (.Name x pos') "clear" apos) [] [] cpos) none pos.line X.env = pure false := by rfl) :
    PSB X E en rk lin lin (.Expr (.Call (.Attribute (.Name x pos') "clear" apos) [] [] cpos) pos) (sMut i fun _ => []) :=
  impS (ps_expr (pe_bm0 PySem.F.plainAttrs_list PySem.F.slot_list_clear PySem.F.type_list_clear mt_clear (pe_var hN hv hd hcd) hbase hline) hsw) fun D σ H ⟨G, R, τ, h, fs, o⟩ => by
    have m : i ∈ lin := List.contains_iff_mem.mp hl
    unfold sMut at o
    split at o
    · rename_i ts e
      obtain ⟨us, p, xs, q1, h2, h3, h4, h5, h6, h7⟩ := fs.fr.own i _ e m
      exact ⟨_, h2, .inl ⟨rfl, xs, SqL.of h3⟩, p, xs, rfl, rfl, h3, o G R _ σ (fs.wr m e h2 .nil) (fun _ _ e => e) (List.prefix_refl _)⟩
    · exact o.elim
theorem psb_rev (hl : lin.contains i = true) (hN : X.N[i]? = some x := by rfl) (hv : Vis X.env.scope x := by first | exact Or.inl rfl | exact Or.inr (Or.inl rfl) | exact Or.inr (Or.inr rfl)) (hd : (x == ("__debug__" : Str)) = false := by decide) (hcd : (x == ("__classdict__" : Str)) = false := by decide)
    (hbase : attributeBase (.Name x pos') "reverse" X.env (eval (.Name x pos') X.env) = eval (.Name x pos') X.env := by rfl) (hline : (apos.endLine == cpos.line) = true := by rfl) (hsw : swapsWith (.Call (.Attribute (.Name x pos') "reverse" apos) [] [] cpos) none pos.line X.env = pure false := by rfl) :
    PSB X E en rk lin lin (.Expr (.Call (.Attribute (.Name x pos') "reverse" apos) [] [] cpos) pos) (sMut i List.reverse) :=
  impS (ps_expr (pe_bm0 PySem.F.plainAttrs_list PySem.F.slot_list_reverse PySem.F.type_list_reverse mt_reverse (pe_var hN hv hd hcd) hbase hline) hsw) fun D σ H ⟨G, R, τ, h, fs, o⟩ => by
    have m : i ∈ lin := List.contains_iff_mem.mp hl
    unfold sMut at o
    split at o
    · rename_i ts e
      obtain ⟨us, p, xs, q1, h2, h3, h4, h5, h6, h7⟩ := fs.fr.own i _ e m
      cases q1
      exact ⟨_, h2, .inl ⟨rfl, xs, SqL.of h3⟩, p, xs, rfl, rfl, h3, o G R _ σ (fs.wr m e h2 h7.reverse) (fun _ _ e => e) (List.prefix_refl _)⟩
    · exact o.elim
/-- a box as a list that may be written -/
theorem box_at {K : PySem.W.Frag} {G : Hp} {R : List Addr} {H : Hp} {h : IH} {n : Nat} {v : V} {ts : List T} (g : Gd K G R H h) (r : Rp K G R (.box n) v) (e : h[n]? = some (.lst ts)) : ∃ a xs, v = .ref a ∧ R[n]? = some a ∧ H a = some (.lst xs) ∧ RpL K G R ts xs := by
  cases r with
  | @box a _ q =>
    obtain ⟨xs, h1, h2⟩ := g.cell n a _ q e
    exact ⟨a, xs, rfl, q, h1, h2⟩
theorem psb_putB (hb : PEB X E lin .fz o fo) (hi : PEB X E lin .fz b fb) (ha : PEB X E lin .fz a fa)
    (has : ∀ v, assign (.Subscript o b tpos) X.env v = (do
      let ov ← holding [v] (eval o X.env)
      let iv ← holding [v, ov] (eval b X.env)
      standAt tpos
      holding [v, ov, iv] (setItem ov iv v)
      release [v, ov, iv] []) := by intro _; rfl) (hs : swapsWithSole [.Subscript o b tpos] a pos.line X.env = pure false := by rfl) (hw : swappedStores [.Subscript o b tpos] a X.env = pure none := by rfl)
    (h1 : (assignEach [.Subscript o b tpos] X.env).map (·.2) = [assign (.Subscript o b tpos) X.env] := by rfl) : PSB X E en rk lin lin (.Assign [.Subscript o b tpos] a pos) (sPutB fo fb fa) :=
  impS (ps_asg ha (pg_sub hb hi set_list has) hs hw h1) fun D σ H ⟨G, R, τ, h, fs, o⟩ => by
    refine lE.thenS (kd := .fz) fs o fun t v h1 G1 R1 H1 f1 e1 r1 o1 => ?_
    refine lE.thenS (kd := .fz) f1 o1 fun x w h2 G2 R2 H2 f2 e2 r2 o2 => ?_
    refine lE.thenS (kd := .fz) f2 o2 fun k z h3 G3 R3 H3 f3 e3 r3 o3 => ?_
    split at o3
    · rename_i n k
      split at o3
      · rename_i ts ec
        split at o3
        · rename_i j ej
          obtain ⟨p, xs, rfl, q, hp, rx⟩ := box_at f3.gd (e3.rp r2) ec
          cases r3
          refine ⟨p, xs, k, j, rfl, rfl, hp, by rw [← rx.len]; exact ej, ?_⟩
          exact o3 G3 R3 _ σ (f3.wrB q ec (rx.set j (e3.rp (e2.rp r1)))) (fun _ _ e => e) (List.prefix_refl _)
        · exact o3.elim
      · exact o3.elim
    · exact o3.elim
theorem psb_put (hl : lin.contains i = true) (hi : PEB X E lin .fz b fb) (ha : PEB X E lin .fz a fa) (hN : X.N[i]? = some x := by rfl) (hv : Vis X.env.scope x := by first | exact Or.inl rfl | exact Or.inr (Or.inl rfl) | exact Or.inr (Or.inr rfl)) (hd : (x == ("__debug__" : Str)) = false := by decide) (hcd : (x == ("__classdict__" : Str)) = false := by decide)
    (has : ∀ v, assign (.Subscript (.Name x pos') b tpos) X.env v = (do
      let ov ← holding [v] (eval (.Name x pos') X.env)
      let iv ← holding [v, ov] (eval b X.env)
      standAt tpos
      holding [v, ov, iv] (setItem ov iv v)
      release [v, ov, iv] []) := by intro _; rfl) (hs : swapsWithSole [.Subscript (.Name x pos') b tpos] a pos.line X.env = pure false := by rfl) (hw : swappedStores [.Subscript (.Name x pos') b tpos] a X.env = pure none := by rfl)
    (h1 : (assignEach [.Subscript (.Name x pos') b tpos] X.env).map (·.2) = [assign (.Subscript (.Name x pos') b tpos) X.env] := by rfl) : PSB X E en rk lin lin (.Assign [.Subscript (.Name x pos') b tpos] a pos) (sPut i fb fa) :=
  impS (ps_asg ha (pg_sub (pe_var hN hv hd hcd) hi set_list has) hs hw h1) fun D σ H ⟨G, R, τ, h, fs, o⟩ => by
    have m : i ∈ lin := List.contains_iff_mem.mp hl
    refine lE.thenS (kd := .fz) fs o fun t v h1 G1 R1 H1 f1 e1 r1 o1 => ?_
    split at o1
    · rename_i ts e
      obtain ⟨us, p, xs, q1, h2, h3, h4, h5, h6, h7⟩ := f1.fr.own i _ e m
      cases q1
      refine ⟨_, h2, ?_⟩
      refine lE.thenS (kd := .fz) f1 o1 fun k z h3' G3 R3 H3 f3 e3 r3 o3 => ?_
      split at o3
      · rename_i k
        split at o3
        · rename_i j ej
          cases r3
          refine ⟨p, xs, k, j, rfl, rfl, e3.kept p _ h3 h5, by rw [← h7.len]; exact ej, ?_⟩
          exact o3 G3 R3 _ σ (f3.wr m e h2 ((e3.rpl h7).set j (e3.rp r1))) (fun _ _ e => e) (List.prefix_refl _)
        · exact o3.elim
      · exact o3.elim
    · exact o1.elim
end

/-! ### a def -/
def runF (n nl : Nat) (body : SS) : SF := fun ts h =>
  if ts.length = n then
    match body (ts.map some ++ List.replicate (nl - n) none) h with
    | .rt t h' => .ok t h'
    | .nx _ h' => .ok .non h'
    | .exc x _ h' => .exc x h'
    | .no => .no
  else .no
/-- a def that always hands back a list of its own -/
def runO (n nl : Nat) (body : SS) : SF := fun ts h =>
  if ts.length = n then
    match body (ts.map some ++ List.replicate (nl - n) none) h with
    | .rt t h' => .ok t h'
    | .exc x _ h' => .exc x h'
    | _ => .no
  else .no
/-- what holds in the body of a def -/
structure Hx (X : Cx) (k : Nat) (E : WX) : Prop where
  room : Room k X.A
  tk : Takes X E
  po : PassesOwn (model X.prog X.w) X.A X.env X.xe
abbrev bodyX (P : Program) (w : World) (K : PySem.W.Frag) (mg : Str → Option Value) (base : Heap) (N : List Str) (q : Str) (st : Stmt) (f : Addr) (cdv : Value) (A : Around) (outer : List Env) (s : Shared) (H : Hp) (E : XK) : Cx :=
  cxOf (L2.CX P w) P w K mg base N q (defScope st) f cdv A outer s H E
/-- where a def of the text stands -/
structure Here (K : PySem.W.Frag) (mg : Str → Option Value) (x : Str) (st : Stmt) (ps : List Str) : Prop where
  ex : ∃ f fd, L2.Fun K x x st f fd ∧ mg x = some (.ref f) ∧ Binds K fd ps []
section
variable {P : Program} {w : World} {K : PySem.W.Frag} {mg : Str → Option Value} {base : Heap} {x : Str} {st : Stmt} {N ps : List Str} {k : Nat}
theorem fr_start {en : Ent} {h : IH} {ts : List T} {vs : List V} (g : Gd K en.G en.R en.H h) (r : RpL K en.G en.R ts vs) (n : Nat) : FrS K en [] en.G en.R en.H h (ts.map some ++ List.replicate n none) (vs.map some ++ List.replicate n none) := by
  refine ⟨g, .refl, ⟨fun i t e _ => ?_, fun i t e m => absurd m (by simp), fun i j t u a _ _ m => absurd m (by simp), by simp [r.len]⟩, ⟨h, g⟩⟩
  by_cases hi : i < ts.length
  · rw [List.getElem?_append_left (by simpa using hi), List.getElem?_map] at e
    cases q : ts[i]? with
    | none => rw [q] at e; cases e
    | some u =>
      rw [q] at e
      cases e
      obtain ⟨v, h1, h2⟩ := r.get q
      refine ⟨v, ?_, h2⟩
      rw [List.getElem?_append_left (by rw [List.length_map, ← r.len]; exact hi), List.getElem?_map, h1]
      rfl
  · rw [List.getElem?_append_right (by simpa using hi), List.getElem?_replicate] at e
    split at e <;> cases e
theorem fnB {body : SS} {lin' : List Nat} {f : Addr} {fd : FuncData} (F : L2.Fun K x x st f fd) (S : FnScope N ps (defScope st))
    (hb : ∀ (f : Addr) (cdv : Value) (A : Around) (outer : List Env) (s : Shared) (H : Hp) (E : XK) (en : Ent), Hx (bodyX P w K mg base N x st f cdv A outer s H E) k (fun c d _ H => E c d H) → PSsB (bodyX P w K mg base N x st f cdv A outer s H E) (fun c d _ H => E c d H) en .fz [] lin' (defBody st) body) :
    FnOk P w K mg base (L2.CX P w) (k + 1) f fd ps (spB K mg .fz (runF ps.length N.length body)) := by
  refine F.okX S (fun vs H Q E h => ?_) (fun cdv A outer s H vs Q E hr h => ?_)
  · obtain ⟨G, R, ts, h, g, r, o⟩ := h
    rw [← r.len]
    by_cases q : ts.length = ps.length
    · exact q
    · unfold runF at o; rw [if_neg q] at o; exact o.elim
  · obtain ⟨G, R, ts, h, g, r, o⟩ := h
    unfold runF at o
    split at o
    · rename_i q
      refine ⟨_, hb f cdv A outer s H E ⟨G, R, H⟩ ⟨hr, takes_of rfl rfl rfl rfl, passes_of rfl⟩, G, R, ts.map some ++ List.replicate (N.length - ps.length) none, h, ?_, ?_⟩
      · unfold L2.start
        have e : vs.length = ps.length := by rw [← r.len]; exact q
        rw [e]
        exact fr_start (en := ⟨G, R, H⟩) g r (N.length - ps.length)
      · cases eb : body (ts.map some ++ List.replicate (N.length - ps.length) none) h with
        | rt t h' => rw [eb] at o; exact fun G' R' H' v g' e' r' => o G' R' H' g' e' v r'
        | nx τ' h' => rw [eb] at o; exact fun G' R' H' σ' f' _ _ => o G' R' H' f'.gd f'.ext _ .non
        | exc x τ' h' => rw [eb] at o; exact fun G' R' H' σ' c d f' q => o G' R' H' c d f'.gd f'.ext q
        | no => rw [eb] at o; exact o
    · exact o.elim
theorem calB {body : SS} {lin' : List Nat} (W : Here K mg x st ps) (S : FnScope N ps (defScope st))
    (hb : ∀ (f : Addr) (cdv : Value) (A : Around) (outer : List Env) (s : Shared) (H : Hp) (E : XK) (en : Ent), Hx (bodyX P w K mg base N x st f cdv A outer s H E) k (fun c d _ H => E c d H) → PSsB (bodyX P w K mg base N x st f cdv A outer s H E) (fun c d _ H => E c d H) en .fz [] lin' (defBody st) body) :
    CalB P w K mg base (k + 1) x .fz (runF ps.length N.length body) :=
  let ⟨f, fd, F, hm, hbi⟩ := W.ex
  ⟨f, fd, ps, fnB F S hb, hm, F.kp, hbi⟩
theorem calO {body : SS} {lin' : List Nat} (W : Here K mg x st ps) (S : FnScope N ps (defScope st))
    (hb : ∀ (f : Addr) (cdv : Value) (A : Around) (outer : List Env) (s : Shared) (H : Hp) (E : XK) (en : Ent), Hx (bodyX P w K mg base N x st f cdv A outer s H E) k (fun c d _ H => E c d H) → PSsB (bodyX P w K mg base N x st f cdv A outer s H E) (fun c d _ H => E c d H) en .own [] lin' (defBody st) body) :
    CalB P w K mg base (k + 1) x .own (runO ps.length N.length body) := by
  obtain ⟨f, fd, F, hm, hbi⟩ := W.ex
  refine ⟨f, fd, ps, F.okX S (fun vs H Q E h => ?_) (fun cdv A outer s H vs Q E hr h => ?_), hm, F.kp, hbi⟩
  · obtain ⟨G, R, ts, h, g, r, o⟩ := h
    rw [← r.len]
    by_cases q : ts.length = ps.length
    · exact q
    · unfold runO at o; rw [if_neg q] at o; exact o.elim
  · obtain ⟨G, R, ts, h, g, r, o⟩ := h
    unfold runO at o
    split at o
    · rename_i q
      refine ⟨_, hb f cdv A outer s H E ⟨G, R, H⟩ ⟨hr, takes_of rfl rfl rfl rfl, passes_of rfl⟩, G, R, ts.map some ++ List.replicate (N.length - ps.length) none, h, ?_, ?_⟩
      · unfold L2.start
        have e : vs.length = ps.length := by rw [← r.len]; exact q
        rw [e]
        exact fr_start (en := ⟨G, R, H⟩) g r (N.length - ps.length)
      · cases eb : body (ts.map some ++ List.replicate (N.length - ps.length) none) h with
        | rt t h' => rw [eb] at o; exact fun G' R' H' v g' e' r' => o G' R' H' g' e' v r'
        | nx τ' h' => rw [eb] at o; exact o.elim
        | exc x τ' h' => rw [eb] at o; exact fun G' R' H' σ' c d f' q => o G' R' H' c d f'.gd f'.ext q
        | no => rw [eb] at o; exact o
    · exact o.elim
end
end GB
namespace GB
open PySem PySem.Spec PyProof.Rows L2

/-! ### a constant of the module -/
def GlobT (K : PySem.W.Frag) (mg : Str → Option Value) (x : Str) (t : T) : Prop := ∃ u v, mg x = some u ∧ RelV v u ∧ ∀ G R, Rp K G R t v
section
variable {X : Cx} {E : WX} {en : Ent} {rk kd k1 : Kd} {lin lin1 lin' : List Nat} {a b c : Expr} {fa fb : SE} {pos : Pos} {x : Str} {t : T}
theorem pb_gt (hg : Gl X x) (h : GlobT X.K X.mg x t) (hd : (x == ("__debug__" : Str)) = false := by decide) : PEB X E lin .fz (.Name x pos) (eC t) := by
  obtain ⟨u, v, h1, h2, h3⟩ := h
  exact pb_glob hg h1 h2 h3 hd
theorem eChain_flat {g1 g2 : G2} {a b c : SE} : ∀ τ h t h', eChain g1 g2 a b c τ h = .ok t h' → True := fun _ _ _ _ _ => trivial
end
section
variable {K : PySem.W.Frag} {mg : Str → Option Value} {h : Heap} {x : Str}
theorem globT_int {i : Int} {t : Tok} (X : K.In h) (G : h.Ns mainGlobals mg) (a : PySem.W.nsIn K mainGlobals x = some (some (.int i t))) : GlobT K mg x (.int i) := ⟨_, .int i, PySem.W.mg_of X G a, ⟨t, rfl⟩, fun _ _ => .int i⟩
theorem globT_str {i : Str} {t : Tok} (X : K.In h) (G : h.Ns mainGlobals mg) (a : PySem.W.nsIn K mainGlobals x = some (some (.str i t))) : GlobT K mg x (.str i) := ⟨_, .str i, PySem.W.mg_of X G a, ⟨t, rfl⟩, fun _ _ => .str i⟩
/-- values that need no heap -/
def flatVT : T → Value → Prop
  | .int i, u => ∃ t, u = .int i t
  | .str i, u => ∃ t, u = .str i t
  | .bl b, u => u = .bool b
  | .non, u => u = .none
  | _, _ => False
inductive FlatL : List T → List Value → Prop
  | nil : FlatL [] []
  | cons {t u ts us} : flatVT t u → FlatL ts us → FlatL (t :: ts) (u :: us)
theorem flatL_vals : ∀ {ts : List T} {us : List Value}, FlatL ts us → ∃ vs, Vals vs us ∧ ∀ G R, RpL K G R ts vs
  | _, _, .nil => ⟨[], .nil, fun _ _ => .nil⟩
  | _, _, .cons (t := t) f r => by
    obtain ⟨vs, h1, h2⟩ := flatL_vals r
    cases t with
    | int i => obtain ⟨k, rfl⟩ := f; exact ⟨.int i :: vs, .cons ⟨k, rfl⟩ h1, fun G R => .cons (.int i) (h2 G R)⟩
    | str i => obtain ⟨k, rfl⟩ := f; exact ⟨.str i :: vs, .cons ⟨k, rfl⟩ h1, fun G R => .cons (.str i) (h2 G R)⟩
    | bl b => cases f; exact ⟨.bl b :: vs, .cons rfl h1, fun G R => .cons (.bl b) (h2 G R)⟩
    | non => cases f; exact ⟨.non :: vs, .cons rfl h1, fun G R => .cons .non (h2 G R)⟩
    | _ => exact False.elim f
theorem globT_tupA {p : Addr} {dd : Option Addr} {its : Array Value} {n : Nat} {sl : Array (Option Value)} {ts : List T} (X : K.In h) (G : h.Ns mainGlobals mg) (a : PySem.W.nsIn K mainGlobals x = some (some (.ref p)))
    (l : K.lookup p = some ⟨.type "tuple", dd, .seq its n, sl⟩) (f : FlatL ts its.toList) (hz : its.size ≤ sizeLine) : GlobT K mg x (.tup ts) := by
  obtain ⟨vs, h1, h2⟩ := flatL_vals (K := K) f
  exact ⟨_, .ref p, PySem.W.mg_of X G a, rfl, fun G R => .tup (.inr ⟨_, its, n, l, rfl, rfl, hz, h1⟩) (h2 G R)⟩
end
/-! ### the flow of kinds -/
section
variable {K : PySem.W.Frag} {lin lin1 lin' : List Nat} {G : Hp} {R : List Addr} {H : Hp} {h : IH} {τ : Ev} {σ : L2.St} {N0 : Addr → Prop}
theorem Fr.perm (f : Fr K lin G R H τ σ N0) (hm : ∀ j, j ∈ lin ↔ j ∈ lin1) : Fr K lin1 G R H τ σ N0 :=
  ⟨fun i t e n => f.slot i t e fun m => n ((hm i).mp m), fun i t e m => f.own i t e ((hm i).mpr m), fun i j t u a e1 e2 m1 m2 => f.apart i j t u a e1 e2 ((hm i).mpr m1) ((hm j).mpr m2), f.len⟩
theorem Fr.drop : ∀ {D : List Nat} {G : Hp}, Fr K (D ++ lin1) G R H τ σ N0 → Gd K G R H h → ∃ G', Gd K G' R H h ∧ Same G G' ∧ (∀ b, G b = none → G' b ≠ none → N0 b) ∧ Fr K lin1 G' R H τ σ N0
  | [], G, f, g => ⟨G, g, fun _ _ e => e, fun b n z => absurd n z, f⟩
  | i :: l, G, f, g => by
    obtain ⟨G1, g1, s1, n1, f1⟩ := Fr.frz1 f g
    obtain ⟨G2, g2, s2, n2, f2⟩ := Fr.drop f1 g1
    refine ⟨G2, g2, same_trans s1 s2, fun b n z => ?_, f2⟩
    by_cases q : G1 b = none
    · exact n2 b q z
    · exact n1 b n q
def subL (a b : List Nat) : Bool := a.all fun i => b.contains i
theorem subL_mem {a b : List Nat} (h : subL a b = true) : ∀ i ∈ a, i ∈ b := fun i m => List.contains_iff_mem.mp (List.all_eq_true.mp h i m)
end
section
variable {X : Cx} {E : WX} {en : Ent} {rk kd k1 : Kd} {lin lin1 lin' : List Nat} {st : Stmt} {sts : List Stmt} {f : SS} {a b c : Expr} {fa fb : SE} {fs : SA} {pos pos' : Pos} {i j l : Nat} {x y z : Str}
theorem lS_fz (hs : subL lin1 lin = true) {D : Ends} {σ : L2.St} {H : Hp} (q : lS X.K X.mg E en rk lin lin' f D σ H) : lS X.K X.mg E en rk lin1 lin' f D σ H := by
  obtain ⟨G, R, τ, h, fs, o⟩ := q
  have m := subL_mem hs
  have f2 : Fr X.K (lin.filter (fun j => !lin1.contains j) ++ lin1) G R H τ σ (fun a => en.H a = none) := fs.fr.perm fun j => by
    rw [List.mem_append, List.mem_filter]
    constructor
    · intro mj
      by_cases q : j ∈ lin1
      · exact .inr q
      · exact .inl ⟨mj, by simp [q]⟩
    · rintro (⟨mj, _⟩ | mj)
      · exact mj
      · exact m j mj
  obtain ⟨G', g', s', n', f'⟩ := Fr.drop f2 fs.gd
  exact ⟨G', R, τ, h, ⟨g', ⟨same_trans fs.ext.same s', fs.ext.pre, fs.ext.kept, fun b n z => if q : G b = none then n' b q z else fs.ext.gnew b n q, fs.ext.rnew⟩, f', fs.gd0⟩, OutS.on s' (List.prefix_refl _) o⟩
theorem pssb_fz (hs : subL lin1 lin = true) (ha : PSsB X E en rk lin1 lin' sts f) : PSsB X E en rk lin lin' sts f := impSs ha fun D σ H q => lS_fz hs q
theorem psb_pass : PSB X E en rk lin lin (.Pass pos) sSkip := impS ps_pass fun D σ H ⟨G, R, τ, h, fs, o⟩ => o G R H σ fs (fun _ _ e => e) (List.prefix_refl _)
/-- a list of the def's own, put where one stood -/
theorem setO_lin (hl : lin.contains i = true) {D : Ends} {σ : L2.St} {H : Hp} (q : lS X.K X.mg E en rk lin lin f D σ H) : lS X.K X.mg E en rk lin (i :: lin) f D σ H := by
  obtain ⟨G, R, τ, h, fs, o⟩ := q
  refine ⟨G, R, τ, h, fs, ?_⟩
  cases e : f τ h with
  | nx τ' h' =>
    rw [e] at o
    intro G' R' H' σ' f' s' p'
    exact o G' R' H' σ' ⟨f'.gd, f'.ext, f'.fr.perm fun j => ⟨fun m => (List.mem_cons.mp m).elim (fun z => z ▸ List.contains_iff_mem.mp hl) id, fun m => List.mem_cons_of_mem _ m⟩, f'.gd0⟩ s' p'
  | rt t h' => rw [e] at o; exact o
  | exc x τ' h' => rw [e] at o; exact o
  | no => rw [e] at o; exact o
theorem psb_setO2 (hl : lin.contains i = true) (hN : X.N.Nodup) (hi : X.N[i]? = some x) (hx : Loc X.env.scope x) (ha : PEB X E lin .own a fa) (hs : swapsWith a (some (.Name x pos')) pos.line X.env = pure false := by rfl) (hf : X.fn x = true ∨ X.env.scope.names.lookup x = some .local := by first | exact .inl rfl | exact .inr rfl | assumption) :
    PSB X E en rk lin lin (.Assign [.Name x pos'] a pos) (sSet i fa) := impS (psb_setO hN hi hx ha hs hf) fun D σ H q => setO_lin hl q
theorem psb_lin2 (hl : lin.contains i = true) (ha : PSB X E en rk lin (i :: lin) st f) : PSB X E en rk lin lin st f := impS ha fun D σ H q => setO_lin hl q
/-- a, b, c = x, y, z -/
theorem psb_par3 {px py pz pt : Pos} {kt k2 pt2} (hc : X.calm = true) (hN : X.N.Nodup) (hl : lin.contains i = false) (hl2 : lin.contains j = false) (hl3 : lin.contains l = false) (hi : X.N[i]? = some x) (hj : X.N[j]? = some y) (hk : X.N[l]? = some z) (hij : i ≠ j) (hil : i ≠ l) (hjl : j ≠ l) (hx : X.env.scope.names.lookup x = some .local) (hy : X.env.scope.names.lookup y = some .local) (hz : X.env.scope.names.lookup z = some .local)
    (ha : PAB X E lin [a, b, c] fs) (hw : swappedStores [.Tuple [.Name x px, .Name y py, .Name z pz] kt pt] (.Tuple [a, b, c] k2 pt2) X.env = pure (some [x, y, z])) (hs : swapsWithSole [.Tuple [.Name x px, .Name y py, .Name z pz] kt pt] (.Tuple [a, b, c] k2 pt2) pos.line X.env = pure false := by rfl) :
    PSB X E en rk lin lin (.Assign [.Tuple [.Name x px, .Name y py, .Name z pz] kt pt] (.Tuple [a, b, c] k2 pt2) pos) (sPar [i, j, l] fs) := impS (ps_par3 hc hN hi hj hk hij hil hjl hx hy hz ha hw hs) fun D σ H ⟨G, R, τ, h, fr, o⟩ => by
  refine lA.thenS fr o fun ts vs h1 G1 R1 H1 f1 e1 r1 o1 => ?_
  have nl : i ∉ lin := fun m => by rw [List.contains_iff_mem.mpr m] at hl; cases hl
  have nl2 : j ∉ lin := fun m => by rw [List.contains_iff_mem.mpr m] at hl2; cases hl2
  have nl3 : l ∉ lin := fun m => by rw [List.contains_iff_mem.mpr m] at hl3; cases hl3
  cases r1 with
  | nil => exact False.elim o1
  | cons r2 r3 =>
    cases r3 with
    | nil => exact False.elim o1
    | cons r4 r5 =>
      cases r5 with
      | nil => exact False.elim o1
      | cons r6 r7 =>
        cases r7 with
        | nil => exact ⟨_, _, _, rfl, o1 G1 R1 H1 _ ⟨f1.gd, f1.ext, ((f1.fr.put nl r2).put nl2 r4).put nl3 r6, f1.gd0⟩ (fun _ _ e => e) (List.prefix_refl _)⟩
        | cons _ _ => exact False.elim o1
end
/-! ### more operators -/
section
variable {K : PySem.W.Frag} {X : Cx}
theorem op_catL : OpR X (binaryOp .Add) (rCatL X.K) := by
  intro pins s σ H x y v u Q I rx ry h
  obtain ⟨l, b, xs, zs, rfl, rfl, hH, hB, hz, q⟩ := h
  cases rx
  cases ry
  obtain ⟨its, r, p1, z1⟩ := I.list hH
  obtain ⟨its2, r2, p2, z2⟩ := I.list hB
  have l1 := r.length
  have l2 := r2.length
  obtain ⟨⟨cls, dd, data, sl⟩, ho, hc, n, hd⟩ := id p1.isList
  obtain ⟨⟨cls2, dd2, data2, sl2⟩, ho2, hc2, n2, hd2⟩ := id p2.isList
  simp only at hc hd hc2 hd2
  subst hc hd hc2 hd2
  have e : its.toArray ++ its2.toArray = (its ++ its2).toArray := by simp
  refine concat_meets ⟨_, ho, rfl⟩ ⟨_, ho2, rfl⟩ noFill_list_add seq_list_add PySem.F.slot_list_add PySem.F.entry_list_add (PySem.F.args_list_add_2 _ _) (list_addW l b its.toArray its2.toArray n n2 dd dd2 sl sl2 (by simp only [List.size_toArray]; omega)) ⟨ho, ho2, ?_⟩
  rw [e]
  exact ⟨.ref _, _, I.lnew (t' := s.toks) (r.append r2) (by rw [List.length_append]; omega), rfl, q _ I.fresh⟩
theorem o2_catL : Op2 K (rCatL K) gCat .own := by
  intro G R H h x y vx vy z Q g lx ly e k
  unfold gCat at e
  split at e
  · rename_i a b e1 e2
    split at e
    · rename_i hl
      cases e
      obtain ⟨p, xs, rfl, qx, rx⟩ := lx.asL g e1
      obtain ⟨q, ys, rfl, qy, ry⟩ := ly.asL g e2
      refine ⟨p, q, xs, ys, rfl, rfl, qx, qy, by rw [← rx.len, ← ry.len]; exact hl, fun l nl => ?_⟩
      obtain ⟨g2, e3, n, m⟩ := g.newO (o := .lst (xs ++ ys)) nl
      exact k _ _ _ _ g2 e3 ⟨_, l, _, rfl, rfl, upd_same, m, n, nl, e3.rpl (rx.append ry)⟩
    · cases e
  · cases e
theorem rpl_rep {G : Hp} {R : List Addr} {ts : List T} {xs : List V} (r : RpL K G R ts xs) : ∀ n : Nat, RpL K G R (List.replicate n ts).flatten (List.replicate n xs).flatten
  | 0 => .nil
  | n + 1 => by
    rw [List.replicate_succ, List.replicate_succ, List.flatten_cons, List.flatten_cons]
    exact r.append (rpl_rep r n)
theorem o2_repT : Op2 K (rRepT K) gRepT .fz := by
  intro G R H h x y vx vy z Q g lx ly e k
  unfold gRepT at e
  split at e
  · split at e
    · rename_i a i hc
      obtain ⟨h1, h2, h3, h4⟩ := hc
      cases e
      obtain ⟨p, xs, rfl, qx, rx⟩ := lx.asT g rfl
      refine ⟨p, i, xs, rfl, ly.int, g.sqT qx, fun n => h1 ((rpl_nil rx).mpr n), h2, h3, by rw [← rx.len]; exact h4, fun l nl => ?_⟩
      obtain ⟨g2, e3⟩ := g.newG (o := .tup (List.replicate i.toNat xs).flatten) nl
      exact k _ _ _ _ g2 e3 (.tup (SqT.of upd_same) (e3.rpl (rpl_rep rx _)))
    · cases e
  · cases e
end
/-! ### the end -/
section
theorem cx_no {P : Program} {w : World} {l : List Env} {H : Hp} {s s' : Shared} {e : Value} (h : L2.CX P w l H s (fun _ _ _ => False) e s') : False := by
  obtain ⟨_, _, _, _, _, _, _, _, _, _, _, _, z⟩ := h
  exact z
theorem ints_rp {K : PySem.W.Frag} {G : Hp} {R : List Addr} : ∀ ns : List Int, RpL K G R (ns.map T.int) (ns.map V.int)
  | [] => .nil
  | n :: ns => .cons (.int n) (ints_rp ns)
theorem law_in {K : PySem.W.Frag} {mg : Str → Option Value} {H : Hp} {a : Addr} {ns : List Int} {F : SF} (hS : SqL K H a (ns.map V.int)) (hF : ∃ h', F [.lst (ns.map T.int)] [] = .ok (.bl true) h') : spB K mg .fz F [.ref a] H (fun v _ => v = .bl true) fun _ _ _ => False := by
  obtain ⟨h', e⟩ := hF
  refine ⟨H, [], [.lst (ns.map T.int)], [], ⟨fun _ _ e => e, fun a m => absurd m (by simp), List.nodup_nil, rfl, fun n a c e1 e2 => absurd e1 (by simp)⟩, .cons (.lst hS (ints_rp ns)) .nil, ?_⟩
  rw [e]
  intro G' R' H' g' e' v r
  cases r
  rfl
def spA (K : PySem.W.Frag) (F : SF) : Sp := fun vs H Q E => ∀ mg, spB K mg .fz F vs H Q E
theorem law_inA {K : PySem.W.Frag} {H : Hp} {a : Addr} {ns : List Int} {F : SF} (hS : SqL K H a (ns.map V.int)) (hF : ∃ h', F [.lst (ns.map T.int)] [] = .ok (.bl true) h') : spA K F [.ref a] H (fun v _ => v = .bl true) fun _ _ _ => False := fun mg => law_in hS hF
theorem fnA {P : Program} {w : World} {K : PySem.W.Frag} {mg : Str → Option Value} {base : Heap} {CX : CXT} {k : Nat} {f : Addr} {fd : FuncData} {ps : List Str} {F : SF} (h : FnOk P w K mg base CX k f fd ps (spB K mg .fz F)) : FnOk P w K mg base CX k f fd ps (spA K F) := h.imp fun _ _ _ _ q => q mg
end

/-! ### what is never reached -/
def sNo : SS := fun _ _ => .no
def eNo : SE := fun _ _ => .no
section
variable {X : Cx} {E : WX} {en : Ent} {rk kd : Kd} {lin lin' : List Nat} {st : Stmt} {e : Expr}
theorem psb_no : PSB X E en rk lin lin' st sNo := ⟨fun pins s σ H D I ⟨_, _, _, _, _, o⟩ => o.elim⟩
theorem pb_no : PEB X E lin kd e eNo := ⟨fun pins s σ H Q I ⟨_, _, _, _, _, _, _, o⟩ => o.elim⟩
end
end GB
namespace GB
open PySem PySem.Spec PyProof.Rows L2

/-! ### xs[lo::-1] -/
def revTop (n : Nat) : Option Int → Nat
  | none => n
  | some i => if i < 0 then (i + n + 1).toNat else min (i.toNat + 1) n
theorem rev_bounds (n : Nat) (lo : Option Int) : sliceBounds lo none (some (-1)) n = (((revTop n lo : Nat) : Int) - 1, -1, -1) := by
  cases lo with
  | none => rfl
  | some i =>
    unfold sliceBounds revTop
    simp only [Option.getD_some]
    have h : ¬ ((-1 : Int) > 0) := by decide
    simp only [h, if_false]
    refine Prod.ext ?_ rfl
    show max (-1) (min (if i < 0 then i + ↑n else i) (↑n - 1)) = ((if i < 0 then (i + n + 1).toNat else min (i.toNat + 1) n : Nat) : Int) - 1
    by_cases q : i < 0
    · simp only [if_pos q]; omega
    · simp only [if_neg q]; omega
theorem revTop_le (n : Nat) (lo : Option Int) : revTop n lo ≤ n := by
  cases lo with
  | none => exact Nat.le_refl _
  | some i =>
    unfold revTop
    by_cases q : i < 0
    · simp only [if_pos q]; omega
    · simp only [if_neg q]; omega
theorem pick_rev (its : List Value) (lo : Option Int) : slicePick its.toArray lo none (some (-1)) = ((its.take (revTop its.length lo)).reverse).toArray := by
  unfold slicePick
  rw [rev_bounds]
  show ((sliceRange (((revTop its.toArray.size lo : Nat) : Int) - 1) (-1) (-1)).filterMap (its.toArray[·]?)).toArray = _
  rw [PySem.W.krv_sliceRange, PySem.W.krv_range, List.filterMap_reverse]
  have h := pick_run its.toArray 0 (revTop its.toArray.size lo)
  have e : (List.range (revTop its.toArray.size lo)).map (0 + ·) = List.range (revTop its.toArray.size lo) := by
    rw [show ((0 + ·) : Nat → Nat) = id from funext fun k => Nat.zero_add k, List.map_id]
  rw [e, List.drop_zero] at h
  rw [h, List.size_toArray]
def RvR (X : Cx) (r : V → Option Int → Hp → VK → Prop) : Prop :=
  ∀ (pins : List (Addr × Obj)) (s : Shared) (σ : L2.St) (H : Hp) (x : V) (v vl vs : Value) (lo : Option Int) (sl : Addr) (Q : VK), L2.Inv X pins σ H s → RelV x v → s.heap.IsSliceOf sl vl .none vs → IsPart vl lo → IsPart vs (some (-1)) → r x lo H Q →
    ∃ T id, typeLookup (.type T) "__getitem__" = pure (some (.builtin id)) ∧ s.TypeIs v T ∧ wpAny (model X.prog X.w) X.A (getItem v (.ref sl)) (EP X pins σ Q) X.xe s
section
variable {X : Cx}
theorem pe_rev {e : Expr} {lo : Option Expr} {te : TE} {tl : TO} {k : Nat} {p1 p2 p3 pos : Pos} {r : V → Option Int → Hp → VK → Prop} (hr : RvR X r) (he : PE X e te) (hl : PO X lo tl) (hsub : ∀ (v : Value) (n : Addr), ∃ ops, subscripted (.Slice lo none (some (.UnaryOp .USub (.Constant (.int 1) k p1) p2)) p3) false v (.ref n) = operate ops (getItem v (.ref n)) := by exact fun _ _ => ⟨_, by with_unfolding_all rfl⟩) :
    PE X (.Subscript e (.Slice lo none (some (.UnaryOp .USub (.Constant (.int 1) k p1) p2)) p3) pos) (fun σ H Q => te σ H fun x H1 => tl σ H1 fun l H2 => r x l H2 Q) := by
  refine ⟨fun pins s σ H Q I h => ?_⟩
  refine Subscript_ (thn (he.run pins s σ H _ I h) fun v s1 ⟨x, H1, I1, r1, q1⟩ => ?_)
  have hst : PO X (some (.UnaryOp .USub (.Constant (.int 1) k p1) p2)) (tPart (tUn (rU fun i => .int (-i)) (tC (.int 1)))) := po_some (pe_un un_neg pe_int)
  refine wpAny_Slice (thn (hl.run pins s1 σ H1 _ I1 q1) fun vl s2 ⟨l, H2, I2, pl, q2⟩ => ?_)
  refine thn (po_none.run pins s2 σ H2 (fun o H3 => o = none ∧ H3 = H2) I2 ⟨rfl, rfl⟩) fun vu s3 ⟨u, H3, I3, pu, eu, e3⟩ => ?_
  subst eu e3
  refine thn (hst.run pins s3 σ H3 (fun o H4 => o = some (-1) ∧ H4 = H3) I3 ⟨1, rfl, -1, rfl, rfl, rfl⟩) fun vs s4 ⟨o, H4, I4, ps, eo, e4⟩ => ?_
  subst eo e4
  cases pu
  have I5 : Inv X pins σ H4 { s4 with heap := s4.heap.push { cls := .type "slice", data := .fields #[vl, .none, vs] } } := I4.kept (t' := s4.toks) fun b ob q => Heap.get?_push_of_some _ q
  obtain ⟨T, id, ht, hT, hg⟩ := hr pins { s4 with heap := s4.heap.push { cls := .type "slice", data := .fields #[vl, .none, vs] } } σ H4 x v vl vs l s4.heap.objs.size Q I5 r1 (Heap.IsSliceOf.new ..) pl ps q2
  show wpAny (model X.prog X.w) X.A (subscriptTail e (.Slice lo none (some (.UnaryOp .USub (.Constant (.int 1) k p1) p2)) p3) v (.ref s4.heap.objs.size)) (EP X pins σ Q) X.xe { s4 with heap := s4.heap.push { cls := .type "slice", data := .fields #[vl, .none, vs] } }
  obtain ⟨ops, hops⟩ := hsub v s4.heap.objs.size
  exact tail_any (ops := ops) hT ht hg hops
def rRevL (K : PySem.W.Frag) : V → Option Int → Hp → VK → Prop := fun x lo H Q => ∃ a xs, x = .ref a ∧ SqL K H a xs ∧ ∀ p, H p = none → Q (.ref p) (upd H p (.lst (xs.take (revTop xs.length lo)).reverse))
theorem rv_list : RvR X (rRevL X.K) := by
  intro pins s σ H x v vl vs lo sl Q I rx hs pl ps h
  obtain ⟨a, xs, rfl, hx, q⟩ := h
  cases rx
  obtain ⟨its, r, ht, hz⟩ := I.list hx
  have hlen := r.length
  refine ⟨"list", _, slot_list_getitem.lookup, ht.isList.typeIs, ?_⟩
  refine wpAny_getItem_list_slice ht.isList hs pl .none ps (by decide) ?_ (by rw [List.size_toArray] <;> omega)
  rw [pick_rev, ← hlen]
  refine ⟨.ref s.heap.objs.size, _, I.laid (t' := s.toks) (o := .lst (xs.take (revTop xs.length lo)).reverse) (fun b ob q => Heap.get?_push_of_some _ q) (Nat.le_refl _) ?_, rfl, q _ (I.hok.fresh (Nat.le_refl _))⟩
  exact ⟨by rw [List.length_reverse, List.length_take]; omega, _, 0, (r.take (revTop xs.length lo)).reverse, Heap.get?_push_size _ rfl⟩
end
section
variable {prog : Program} {w : World} {A : Around} {E : Value → Shared → Prop} {s : Shared}
theorem applied_rev {sl : Addr} {vs : Value} {n : Nat} {Q : Int × Int × Nat → Shared → Prop} (hs : s.heap.IsSliceOf sl .none .none vs) (ps : IsPart vs (some (-1)))
    (h : Q ((n : Int) - 1, -1, n) s) : wpAny (model prog w) A (Builtin.Slice.sliceApplied (.ref sl) (pure (n : Int))) Q E s := by
  obtain ⟨os, hos, hcs, hds⟩ := id hs
  unfold Builtin.Slice.sliceApplied Builtin.Slice.sliceFields
  refine wpAny_bind (wpAny_bind (wpAny_field hos hds (x := .none) rfl (wpAny_bind (wpAny_field hos hds (x := .none) rfl (wpAny_bind (wpAny_field hos hds (x := vs) rfl (wpAny_pure ?_)))))))
  refine wpAny_bind (HT.slicePart_ ps ?_)
  show wpAny _ _ (if ((-1 : Int) == 0) = true then _ else _) _ _ s
  rw [if_neg (by decide)]
  refine wpAny_bind (HT.slicePart_ .none (wpAny_bind (HT.slicePart_ .none (wpAny_bind (wpAny_pure ?_)))))
  show wpAny _ _ (pure ((n : Int) - 1, (-1 : Int), Builtin.Slice.slicePlaces ((n : Int) - 1) (-1) (-1))) _ _ s
  have e : Builtin.Slice.slicePlaces ((n : Int) - 1) (-1) (-1) = n := by
    unfold Builtin.Slice.slicePlaces
    have h1 : ¬ ((-1 : Int) > 0) := by decide
    simp only [h1, if_false]
    split
    · rw [show (-(-1 : Int)) = 1 by decide, Int.ediv_one]; omega
    · omega
  rw [e]
  exact wpAny_pure h
theorem pick_revT (xs : Array Value) : ((List.range xs.size).filterMap fun (m : Nat) => xs[((xs.size : Int) - 1 + (m : Int) * (-1)).toNat]?).toArray = xs.toList.reverse.toArray := by
  have e : (List.range xs.size).filterMap (fun (m : Nat) => xs[((xs.size : Int) - 1 + (m : Int) * (-1)).toNat]?) = ((List.range xs.size).map fun k => xs.size - 1 - k).filterMap (xs[·]?) := by
    rw [List.filterMap_map]
    have key : ∀ (l : List Nat), (∀ m ∈ l, m < xs.size) → l.filterMap (fun (m : Nat) => xs[((xs.size : Int) - 1 + (m : Int) * (-1)).toNat]?) = l.filterMap ((fun x => xs[x]?) ∘ fun k => xs.size - 1 - k) := by
      intro l
      induction l with
      | nil => exact fun _ => rfl
      | cons m l ih =>
        intro hm
        have h1 := hm m List.mem_cons_self
        rw [List.filterMap_cons, List.filterMap_cons, ih fun k mk => hm k (List.mem_cons_of_mem _ mk)]
        have em : ((xs.size : Int) - 1 + (m : Int) * (-1)).toNat = xs.size - 1 - m := by omega
        rw [em]
        rfl
    exact key _ fun m hm => List.mem_range.mp hm
  rw [e, PySem.W.krv_range, List.filterMap_reverse, PySem.W.krv_all]
theorem getItem_tuple_rev {t sl : Addr} {items : Array Value} {vs : Value} {Q : Value → Shared → Prop} (ht : IsTup s.heap t items) (hs : s.heap.IsSliceOf sl .none .none vs) (ps : IsPart vs (some (-1)))
    (h : Q (.ref s.heap.objs.size) { s with heap := s.heap.push { cls := .type "tuple", data := .seq items.toList.reverse.toArray } })
    (hsz : items.size ≤ sizeLine) : wpAny (model prog w) A (getItem (.ref t) (.ref sl)) Q E s := by
  have htake : sizeOk (.seq items.toList.reverse.toArray) := by
    show items.toList.reverse.toArray.size ≤ sizeLine
    rw [List.size_toArray, List.length_reverse, Array.length_toList]
    omega
  obtain ⟨os, hos, hcs, hds⟩ := id hs
  have hTs : s.TypeIs (.ref sl) "slice" := ⟨os, hos, hcs⟩
  unfold getItem
  try with_reducible refine wpAny_holding ?_
  first | refine wpAny_bind (wpAny_pure ?_) | skip
  refine wpAny_bind (wpAny_sequenceKey ht.typeIs (by decide) ?_)
  refine wpAny_bind (wpAny_callSpecial?_slot (name := Str.ofString "__getitem__") ht.typeIs PyProof.Rows.slot_tuple_getitem
    (wpAny_call_entry PyProof.Rows.slot_tuple_getitem ht.typeIs entry_tuple_getitem ?_ (args_tuple_getitem _ _)))
  show wpAny _ _ (Builtin.Tuple.tupleItemsOf (.ref t) >>= _) _ _ s
  refine wpAny_bind (tupleItemsOf_ ht ?_)
  refine wpAny_bind (wpAny_typeOf hTs ?_)
  rw [if_pos (by decide)]
  refine wpAny_bind (applied_rev hs ps ?_)
  have hno : ¬ ((((items.size : Int) - 1) == 0 && (-1 : Int) == 1 && items.size == items.size) = true) := by simp
  show wpAny _ _ (if (((items.size : Int) - 1) == 0 && (-1 : Int) == 1 && items.size == items.size) = true then _ else _) _ _ s
  rw [if_neg hno, pick_revT]
  first
    | exact wpAny_bind (m := Builtin.Tuple.tupleExact _) (wpAny_newObj_type (wpAny_pure ⟨_, rfl, wpAny_pure h⟩) htake)
    | exact wpAny_bind (m := Builtin.Tuple.tupleExact _) (wpAny_newObj_type (wpAny_bind (wpAny_pure (wpAny_pure ⟨_, rfl, wpAny_pure h⟩))) htake)
    | exact wpAny_bind (wpAny_bind (m := Builtin.Tuple.tupleExact _) (wpAny_newObj_type (wpAny_pure (wpAny_pure ⟨_, rfl, wpAny_pure h⟩)) htake))
    | exact wpAny_bind (wpAny_bind (m := Builtin.Tuple.tupleExact _) (wpAny_newObj_type (wpAny_pure ⟨_, rfl, wpAny_pure h⟩) htake))
end
section
variable {X : Cx}
def rRevT (K : PySem.W.Frag) : V → Option Int → Hp → VK → Prop := fun x lo H Q => ∃ a xs, x = .ref a ∧ lo = none ∧ SqT K H a xs ∧ ∀ p, H p = none → Q (.ref p) (upd H p (.tup xs.reverse))
theorem rv_tup : RvR X (rRevT X.K) := by
  intro pins s σ H x v vl vs lo sl Q I rx hs pl ps h
  obtain ⟨a, xs, rfl, rfl, hx, q⟩ := h
  cases rx
  cases pl
  obtain ⟨its, r, ht, hz⟩ := I.tuple hx
  have hlen : its.toArray.size = xs.length := by rw [List.size_toArray]; exact r.length.symm
  refine ⟨"tuple", _, PyProof.Rows.slot_tuple_getitem.lookup, ht.typeIs, ?_⟩
  refine getItem_tuple_rev ht hs ps ?_ (by rw [hlen]; exact hz)
  refine ⟨.ref s.heap.objs.size, _, I.laid (t' := s.toks) (o := .tup xs.reverse) (fun b ob q => Heap.get?_push_of_some _ q) (Nat.le_refl _) ?_, rfl, q _ (I.hok.fresh (Nat.le_refl _))⟩
  exact ⟨by rw [List.length_reverse]; exact hz, _, r.reverse, IsTup.new _ _⟩
end
abbrev GR := T → Option Int → IH → Option T
def eRev (g : GR) (f : SE) (lo : SO) : SE := fun τ h => (f τ h).bind fun x h1 => (lo τ h1).bind fun l h2 => Rs.of (g x l h2) h2
def gRevL : GR := fun x l h => (asL h x).map fun ts => .lst (ts.take (revTop ts.length l)).reverse
def gRevT : GR
  | .tup ts, none, _ => some (.tup ts.reverse)
  | _, _, _ => none
def OpR3 (K : PySem.W.Frag) (r : V → Option Int → Hp → VK → Prop) (g : GR) (kd : Kd) : Prop := ∀ (G : Hp) (R : List Addr) (H : Hp) (h : IH) (x : T) (vx : V) (lo : Option Int) (z : T) (Q : VK), Gd K G R H h → Live K G R H x vx → g x lo h = some z →
  (∀ v G' R' H', Gd K G' R' H' h → Ext G R H G' R' H' → Res K kd H z v G' R' H' → Q v H') → r vx lo H Q
section
variable {X : Cx} {E : WX} {lin : List Nat} {kd k1 k2 : Kd} {a b : Expr} {lo : Option Expr} {fa fb : SE} {fl : SO} {pos p1 p2 p3 apos : Pos} {k : Nat}
theorem pb_rev {r : V → Option Int → Hp → VK → Prop} {g : GR} (hr : RvR X r) (hg : OpR3 X.K r g kd) (ha : PEB X E lin k1 a fa) (hl : POB X E lin lo fl) (hsub : ∀ (v : Value) (n : Addr), ∃ ops, subscripted (.Slice lo none (some (.UnaryOp .USub (.Constant (.int 1) k p1) p2)) p3) false v (.ref n) = operate ops (getItem v (.ref n)) := by exact fun _ _ => ⟨_, by with_unfolding_all rfl⟩) :
    PEB X E lin kd (.Subscript a (.Slice lo none (some (.UnaryOp .USub (.Constant (.int 1) k p1) p2)) p3) pos) (eRev g fa fl) := impE (pe_rev hr ha hl hsub) fun σ H Q ⟨G, R, τ, h, N0, gd, fr, o⟩ => by
  refine lE.then gd fr o fun x vx h1 G1 R1 H1 g1 e1 f1 r1 o1 => ?_
  refine lO.then g1 f1 o1 fun l h2 G2 R2 H2 g2 e2 f2 o2 => ?_
  cases q : g x l h2 with
  | none => rw [q] at o2; exact o2.elim
  | some z =>
    rw [q] at o2
    exact hg G2 R2 H2 h2 x vx l z Q g2 (Live.ext e2 (Res.live r1)) q fun v G' R' H' g' e' r' => o2 G' R' H' g' e' v (Res.back g2 (e1.trans gd g2 e2) r')
theorem or_list {K : PySem.W.Frag} : OpR3 K (rRevL K) gRevL .own := by
  intro G R H h x vx lo z Q g lx e k
  unfold gRevL at e
  obtain ⟨ts, e1, rfl⟩ := Option.map_eq_some_iff.mp e
  obtain ⟨a, xs, rfl, h1, h2⟩ := lx.asL g e1
  refine ⟨a, xs, rfl, h1, fun p np => ?_⟩
  obtain ⟨g2, e2, n, m⟩ := g.newO (o := .lst (xs.take (revTop xs.length lo)).reverse) np
  refine k _ _ _ _ g2 e2 ⟨_, p, _, rfl, rfl, upd_same, m, n, np, e2.rpl ?_⟩
  rw [h2.len]
  exact (h2.take _).reverse
theorem or_tup {K : PySem.W.Frag} : OpR3 K (rRevT K) gRevT .fz := by
  intro G R H h x vx lo z Q g lx e k
  unfold gRevT at e
  split at e
  · cases e
    obtain ⟨a, xs, rfl, h1, h2⟩ := lx.asT g rfl
    refine ⟨a, xs, rfl, rfl, g.sqT h1, fun p np => ?_⟩
    obtain ⟨g2, e2⟩ := g.newG (o := .tup xs.reverse) np
    exact k _ _ _ _ g2 e2 (.tup (SqT.of upd_same) (e2.rpl h2.reverse))
  · cases e
/-! ### str.join -/
def strsL : List T → Option (List Str)
  | [] => some []
  | .str z :: ts => (strsL ts).map (z :: ·)
  | _ :: _ => none
theorem strs_rp {K : PySem.W.Frag} {G : Hp} {R : List Addr} : ∀ {ts : List T} {xs : List V} {ys : List Str}, RpL K G R ts xs → strsL ts = some ys → xs = ys.map V.str
  | _, _, _, .nil, e => by cases e; rfl
  | _, _, _, .cons (t := t) h k, e => by
    cases t with
    | str z =>
      obtain ⟨zs, e1, rfl⟩ := Option.map_eq_some_iff.mp (show (strsL _).map (z :: ·) = some _ from e)
      cases h
      rw [strs_rp k e1]; rfl
    | _ => cases e
def gJoin : G2 := fun x y h =>
  match x with
  | .str a => ((asSeq h y).bind strsL).bind fun ys => if (ys.map (·.length)).sum + ys.length * a.length ≤ 16777216 then some (.str (Txt.join a ys)) else none
  | _ => none
def eJoin (f g : SE) : SE := fun τ h => (f τ h).bind fun x h1 =>
  match x with
  | .str z => (g τ h1).bind fun y h2 => Rs.of (gJoin (.str z) y h2) h2
  | _ => .no
theorem pb_join (ha : PEB X E lin k1 a fa) (hb : PEB X E lin k2 b fb) (hs : starEach [b] X.env = [(false, eval b X.env)] := by rfl) (hbase : attributeBase a "join" X.env (eval a X.env) = eval a X.env := by rfl) (hline : (apos.endLine == pos.line) = true := by rfl) :
    PEB X E lin .fz (.Call (.Attribute a "join" apos) [b] [] pos) (eJoin fa fb) := impE (pe_join ha hb hs hbase hline) fun σ H Q ⟨G, R, τ, h, N0, gd, fr, o⟩ => by
  refine lE.then gd fr o fun x vx h1 G1 R1 H1 g1 e1 f1 r1 o1 => ?_
  cases x with
  | str z0 =>
    refine ⟨⟨z0, Live.str (Res.live r1)⟩, ?_⟩
    refine lE.then g1 f1 o1 fun y vy h2 G2 R2 H2 g2 e2 f2 r2 o2 => ?_
    cases q : gJoin (.str z0) y h2 with
    | none => rw [q] at o2; exact o2.elim
    | some z =>
      rw [q] at o2
      have q' : ((asSeq h2 y).bind strsL).bind (fun ys => if (ys.map (·.length)).sum + ys.length * z0.length ≤ 16777216 then some (T.str (Txt.join z0 ys)) else none) = some z := q
      obtain ⟨ys, q1, q2⟩ := Option.bind_eq_some_iff.mp q'
      obtain ⟨ts, q3, q4⟩ := Option.bind_eq_some_iff.mp q1
      split at q2
      · rename_i hz
        cases q2
        obtain ⟨p, xs, e3, h4, h5⟩ := (Res.live r2).asSeq g2 q3
        subst e3
        refine ⟨_, p, ys, Live.str (Res.live r1), rfl, ?_, hz, o2 G2 R2 H2 g2 .refl _ (.str _)⟩
        rw [← strs_rp h5 q4]
        exact h4
      · cases q2
  | _ => exact o1.elim
end
/-! ### >>, & -/
def gShr : G2 := gI (fun _ j => decide (0 ≤ j)) fun i j => .int (i / 2 ^ j.toNat)
def gAnd : G2 := gI okAll fun i j => .int (Builtin.bitAnd i j)
section
variable {K : PySem.W.Frag}
theorem o2_shr : Op2 K (rI (fun _ j => 0 ≤ j) fun i j => .int (i / 2 ^ j.toNat)) gShr .fz := o2_I (fun _ _ c => of_decide_eq_true c) fun _ _ _ _ => .int _
theorem o2_and : Op2 K (rI0 fun i j => .int (Builtin.bitAnd i j)) gAnd .fz := o2_I0 fun _ _ _ _ => .int _
end
end GB
namespace GB
open PySem PySem.Spec PyProof.Rows L2
open Sem (wp)
open AutoSeq1 (wpAny_loadPart')

/-! ### enumerate(tuple) -/
theorem enum_newT (t : Addr) (items : Array Value) (n : Nat) (dct : Option Addr) (sl : Array (Option Value)) :
    Meets (Builtin.«enumerate.__new__» ⟨[.type "enumerate", .ref t], []⟩) (fun _ R s => s.heap.get? t = some { cls := .type "tuple", dict := dct, data := .seq items n, slots := sl } ∧
      R (.ok (.ret (.ref (s.heap.push { cls := .type "tuple_iterator", data := .fields #[.ref t, .int 0 0] }).objs.size)))
        { s with heap := (s.heap.push { cls := .type "tuple_iterator", data := .fields #[.ref t, .int 0 0] }).push { cls := .type "enumerate", data := .fields #[.none, .bool false, .ref s.heap.objs.size, rawInt 0, .none, .none] } }) :=
  .of_wp fun prog w A R s h => by
    obtain ⟨hp, g, d, tk, os⟩ := s; obtain ⟨hl, h⟩ := h
    have hsub := sub_enumerate
    have hL : Heap.IsTuple (Shared.heap ⟨hp, g, d, tk, os⟩) t items := ⟨_, hl, rfl, n, rfl⟩
    wp_walk using wpAny_loadPart' hl
    refine wpAny_stack_any fun st => wpAny_pure ?_
    split
    · rename_i c _ _ _ _ _
      cases (c == Value.type "enumerate")
      · wp_walk using wpAny_loadPart' hl, wpAny_pyIter_tuple hL
        exact ⟨_, rfl, h⟩
      · wp_walk using wpAny_loadPart' hl, wpAny_pyIter_tuple hL
        exact ⟨_, rfl, h⟩
    · wp_walk using wpAny_loadPart' hl, wpAny_pyIter_tuple hL
      exact ⟨_, rfl, h⟩
section
variable {prog : Program} {w : World} {A : Around} {E : Value → Shared → Prop} {s : Shared}
theorem call_enumT {l : Addr} {items : Array Value} {Q : Value → Shared → Prop} (hL : s.heap.IsTuple l items)
    (h : ∀ h', IsEnum h' (s.heap.objs.size + 1) s.heap.objs.size 0 .none → h'.IsTupleIter s.heap.objs.size l 0 → h'.objs.size = s.heap.objs.size + 2 →
      (∀ b o, s.heap.get? b = some o → h'.get? b = some o) → Q (.ref (s.heap.objs.size + 1)) { s with heap := h' }) :
    wpAny (model prog w) A (call (.type "enumerate") [.ref l]) Q E s := by
  obtain ⟨⟨c, dct, dt, sl⟩, hl, hc, n, hd⟩ := hL
  replace hc : c = .type "tuple" := hc
  replace hd : dt = .seq items n := hd
  subst hc hd
  refine callType_new F.called_enumerate (by decide) (F.typeCall_enumerate_1 _) (F.newCall_enumerate_1 _) (fun obj => F.args_object_init_2 obj _) F.entry_enumerate_new
    (enum_newT l items n dct sl) ⟨hl, ?_⟩
  have hz : (s.heap.push { cls := .type "tuple_iterator", data := .fields #[.ref l, .int 0 0] }).objs.size = s.heap.objs.size + 1 := Heap.size_push ..
  show _ ∧ _
  rw [hz]
  have he : IsEnum ((s.heap.push { cls := .type "tuple_iterator", data := .fields #[.ref l, .int 0 0] }).push
      { cls := .type "enumerate", data := .fields #[.none, .bool false, .ref s.heap.objs.size, rawInt 0, .none, .none] }) (s.heap.objs.size + 1) s.heap.objs.size 0 .none := by
    have := Heap.get?_push_size (s.heap.push { cls := .type "tuple_iterator", data := .fields #[.ref l, .int 0 0] })
      (o := { cls := .type "enumerate", data := .fields #[.none, .bool false, .ref s.heap.objs.size, rawInt 0, .none, .none] }) rfl
    rw [hz] at this; exact this
  refine ⟨⟨_, he, rfl⟩, h _ he ⟨_, Heap.get?_push_of_some _ (Heap.get?_push_size _ rfl), rfl, rfl⟩ (by rw [Heap.size_push, hz]) fun b o x => Heap.get?_push_of_some _ (Heap.get?_push_of_some _ x)⟩
theorem pyNext_enum_endT {e it l : Addr} {i : Nat} {items : Array Value} {old : Value} {Q : Option Value → Shared → Prop} (hh : A.handled = none)
    (he : IsEnum s.heap e it i old) (hit : s.heap.IsTupleIter it l i) (hl : s.heap.IsTuple l items) (hx : items[i]? = none)
    (hQ : ∀ h', Heap.ExtBut it s.heap h' → Q none { s with heap := h' }) : wpAny (model prog w) A (pyNext (.ref e)) Q E s := by
  have hT : s.TypeIs (.ref e) "enumerate" := ⟨_, he, rfl⟩
  unfold pyNext
  refine wpAny_bind (wpAny_attempt (wpAny_callSpecial?_slot (name := Str.ofString "__next__") hT F.slot_enumerate_next
    (wpAny_call_entry F.slot_enumerate_next hT F.entry_enumerate_next ?_ (F.args_enumerate_next_1 _))))
  show wpAny _ _ (field (.ref e) 2 >>= _) _ _ _
  refine wpAny_bind (wpAny_field he rfl (x := .ref it) rfl ?_)
  refine wpAny_bind (wpAny_nextOf_tuple_end hh hit hl hx fun h' x he' hx' => ?_)
  obtain ⟨o, ho, hc⟩ := hx'
  refine wpAny_bind (wpAny_isInstance (T := "StopIteration") (b := true) ⟨o, ho, hc⟩ isSubtype_stop ?_)
  exact wpAny_pure (hQ _ he')
end
/-- the tuple at a, each item in a new pair -/
def IteT (K : PySem.W.Frag) (a : Addr) : It :=
  ⟨fun i H => ∃ (xs : List V) (x : V), SqT K H a xs ∧ xs[i]? = some x, fun i H v H' => ∃ T x, v = .ref T ∧ H T = none ∧ H' = upd H T (.tup [.int (i : Nat), x]) ∧ ∀ xs, SqT K H a xs → xs[i]? = some x, fun i H => ∃ xs : List V, SqT K H a xs ∧ xs.length ≤ i⟩
theorem turn_enumT {P : Program} {w : World} {K : PySem.W.Frag} {elts : List Expr} {kk : Nat} {tpos : Pos} (a e it : Addr) (hai : a ≠ it) (hae : a ≠ e) :
    Turn P w K (.Tuple elts kk tpos) (IteT K a) [e, it] e (fun i h => (∃ old, IsEnum h e it ((i : Nat) : Int) old) ∧ h.IsTupleIter it a i ∧ e ≠ it) where
  mem := by simp
  obj := fun i h st b hb => by
    obtain ⟨⟨old, he⟩, ⟨o, ho, hc, hd⟩, _⟩ := st
    have e' : b = e ∨ b = it := by simpa using hb
    rcases e' with z | z
    · rw [z]; exact ⟨_, he, fun v q => nomatch q⟩
    · rw [z]; exact ⟨o, ho, fun v q => by rw [hd] at q; cases q⟩
  keep := fun i h h' st k => let ⟨⟨old, he⟩, hi, hne⟩ := st; ⟨⟨old, k e (by simp) _ he⟩, hi.at fun o q => k it (by simp) o q, hne⟩
  item := by
    intro X hP hw hK hc i pins s σ H E I hf st hg
    subst hP hw hK
    obtain ⟨⟨old, he⟩, hit, hne⟩ := st
    obtain ⟨xs, x, hq, hx⟩ := hg
    obtain ⟨its, rv, p, hz⟩ := I.tuple hq
    obtain ⟨u, hu, ru⟩ := rv.get hx
    have hel : e < s.heap.objs.size := Heap.lt_size he
    have hil : it < s.heap.objs.size := by obtain ⟨_, q, _⟩ := hit; exact Heap.lt_size q
    have hlt : i < its.toArray.size := by
      have := (List.getElem?_eq_some_iff.mp hu).1
      simpa using this
    refine wpAny_pyNext_enum_itemD (Draws.tuple (by exact I.ok.hd hc) it a hai its.toArray) he ⟨hit, p⟩ hlt hne (by simp [hne, Ne.symm hae]) fun y h' tk hy ho hst hT hsz hk => ?_
    have hyu : y = u := by
      have h1 : its.toArray[i]? = some u := by simpa using hu
      exact Option.some.inj (hy.symm.trans h1)
    subst hyu
    refine ⟨_, rfl, wpAny_letOwnedTupleGo_enum (s := { s with heap := h', toks := tk + 1 }) ho fun h'' he' sb => ?_⟩
    have hT2 : h''.get? s.heap.objs.size = some { cls := .type "tuple", data := .seq #[.int i tk, y] } := (sb.2 _ (Nat.ne_of_gt hel)).trans hT
    have new : ObjOk X.prog X.w (upd H s.heap.objs.size (.tup [.int (i : Nat), x])) h'' s.heap.objs.size (.tup [.int (i : Nat), x]) :=
      ⟨by show 2 ≤ sizeLine; decide, [.int i tk, y], .cons ⟨_, rfl⟩ (.cons ru .nil), ⟨_, hT2, rfl, _, rfl⟩⟩
    have I1 : L2.Inv X pins σ (upd H s.heap.objs.size (.tup [.int (i : Nat), x])) { s with heap := h'', toks := tk + 1 } :=
      I.turnedNew (ch := [e, it]) (fun b ob hb q => (sb.2 b (fun z => hb (by simp [z]))).trans (hk b ob (fun z => hb (by simp [z])) (fun z => hb (by simp [z])) q)) hf (Nat.le_refl _) new
    refine ⟨.ref s.heap.objs.size, _, I1, rfl, ⟨_, x, rfl, I.hok.fresh (Nat.le_refl _), rfl, fun ys hy => by rw [I.tuple_inj hy hq]; exact hx⟩, ⟨⟨y, ?_⟩, hst.1.at fun o q => (sb.2 it (Ne.symm hne)).trans q, hne⟩, fun b hb => ?_⟩
    · have e1 : ((i + 1 : Nat) : Int) = (i : Int) + 1 := by omega
      rw [e1]; exact he'
    · have hb' : b < s.heap.objs.size := by
        have e' : b = e ∨ b = it := by simpa using hb
        rcases e' with z | z
        · rw [z]; exact hel
        · rw [z]; exact hil
      rw [upd_ne (Nat.ne_of_lt hb')]
      exact (hf b hb).1
  done := by
    intro X hP hw hK hc i pins s σ H E I hf st hg
    subst hP hw hK
    obtain ⟨⟨old, he⟩, hit, hne⟩ := st
    obtain ⟨xs, hq, hx⟩ := hg
    obtain ⟨its, rv, p, hz⟩ := I.tuple hq
    obtain ⟨f0, f1, f2, f3, f4, f5⟩ := hf it (by simp)
    have hl := rv.length
    exact pyNext_enum_endT (I.ok.hd hc) he hit p (by simp; omega) fun h' eb => ⟨rfl, I.turned (t' := s.toks) (fun b o hb q => eb b o hb q) f0 f1 f3 f4 f5⟩
  self := fun A i s Q E st h => let ⟨⟨_, he⟩, _⟩ := st; wpAny_pyIter_enum he h
def iEnumT (K : PySem.W.Frag) (ta : TA) : TI := fun σ H R => ta σ H fun vs H1 => ∃ a xs, vs = [.ref a] ∧ SqT K H1 a xs ∧ R (IteT K a) H1
theorem pi_enumT {X : Cx} {e : Expr} {ta : TA} {p pos tpos : Pos} {elts : List Expr} {kk : Nat} (hg : Gl X "enumerate") (hm : X.mg "enumerate" = none) (ha : PA X [e] ta) (hs : starEach [e] X.env = [(false, eval e X.env)] := by rfl) :
    PI X (.Tuple elts kk tpos) (.Call (.Name "enumerate" p) [e] [] pos) (iEnumT X.K ta) := by
  refine ⟨fun pins s σ H R I h => ?_⟩
  refine Call_ (ld_blt I hg hm boot_enumerate (PyProof.Rows.callWith_type1 (thn (ha.run pos pins s σ H _ I h) fun us s1 ⟨vs, H1, I1, r1, q1⟩ => ?_) hs rfl))
  obtain ⟨a, xs, ex, hq, q⟩ := q1
  subst ex
  cases r1 with
  | cons r rr =>
    cases rr
    cases r
    obtain ⟨its, rv, p', hz⟩ := I1.tuple hq
    have ha' : a < s1.heap.objs.size := by obtain ⟨o, ho, _⟩ := id p'; exact Heap.lt_size ho
    refine call_enumT p' fun h' he hit hsz hk => wpAny_pyIter_enum he ?_
    have I2 : L2.Inv X pins σ H1 { s1 with heap := h' } := I1.kept (t' := s1.toks) hk
    refine ⟨s1.heap.objs.size + 1, [s1.heap.objs.size + 1, s1.heap.objs.size], _, _, H1, rfl, I2, turn_enumT a (s1.heap.objs.size + 1) s1.heap.objs.size (Nat.ne_of_lt ha') (Nat.ne_of_lt (Nat.lt_succ_of_lt ha')), ⟨⟨.none, he⟩, hit, Nat.succ_ne_self _⟩, fun b hb => ?_, q⟩
    have e' : b = s1.heap.objs.size + 1 ∨ b = s1.heap.objs.size := by simpa using hb
    have hle : s1.heap.objs.size ≤ b := by
      rcases e' with z | z
      · rw [z]; exact Nat.le_add_right _ _
      · rw [z]; exact Nat.le_refl _
    exact I1.fpOk hle (I1.hok.fresh hle)
section
variable {K : PySem.W.Frag} {G : Hp} {R : List Addr} {H : Hp} {h : IH}
theorem it_enumT {q : Addr} {xs : List V} {ts : List T} (hq : SqT K G q xs) (r : RpL K G R ts xs) : ItOk K G R (IteT K q) (enumL ts) where
  go := fun i G1 R1 H1 h1 g s p hi => by
    rw [enumL_len] at hi
    obtain ⟨x, hx⟩ : ∃ x, xs[i]? = some x := ⟨_, List.getElem?_eq_getElem (by rw [← r.len]; exact hi)⟩
    exact ⟨xs, x, g.sqT (same_sqT s hq), hx⟩
  yld := fun i t G1 R1 H1 h1 x H2 g s p ht y => by
    obtain ⟨T, v, rfl, nT, rfl, y⟩ := y
    obtain ⟨u, hu, rfl⟩ := enumL_get ht
    obtain ⟨w, hw, rw'⟩ := r.get hu
    have e := (y xs (g.sqT (same_sqT s hq))).symm.trans hw
    cases e
    obtain ⟨g2, e2⟩ := g.newG (o := .tup [.int (i : Nat), v]) nT
    exact ⟨_, g2, e2, .tup (SqT.of upd_same) (.cons (.int _) (.cons (e2.rp (rw'.mono s p)) .nil))⟩
  stop := fun i G1 R1 H1 h1 g s p hi => ⟨xs, g.sqT (same_sqT s hq), by rw [← r.len]; rw [enumL_len] at hi; exact hi⟩
end
def gEnT : T → IH → Option (List T)
  | .tup ts, _ => some (enumL ts)
  | _, _ => none
section
variable {X : Cx} {E : WX} {lin : List Nat} {a : Expr} {fa : SE} {p pos tpos : Pos} {elts : List Expr} {kk : Nat}
theorem pib_enT (hg : Gl X "enumerate") (hm : X.mg "enumerate" = none) (ha : PEB X E lin .fz a fa) (hs : starEach [a] X.env = [(false, eval a X.env)] := by rfl) : PIB X E lin (.Tuple elts kk tpos) (.Call (.Name "enumerate" p) [a] [] pos) (iMap fa gEnT) :=
  impI (pi_enumT hg hm (pa_cons ha pa_nil hs) hs) fun σ H Q ⟨G, R, τ, h, N0, gd, fr, o⟩ => by
    refine lE.then gd fr o fun x vx h1 G1 R1 H1 g1 e1 f1 r1 o1 => ?_
    unfold gEnT at o1
    split at o1
    · cases r1 with
      | tup q k => exact ⟨_, _, rfl, g1.sqT q, o1 G1 R1 H1 g1 .refl _ (it_enumT q k)⟩
    · exact o1.elim
end

/-! ### zip of sequences of any two kinds (true: a tuple) -/
def SqK (K : PySem.W.Frag) (H : Hp) (t : Bool) (a : Addr) (xs : List V) : Prop :=
  match t with
  | true => SqT K H a xs
  | false => SqL K H a xs
def ItrK (t : Bool) (h : Heap) (it a : Addr) (i : Nat) : Prop :=
  match t with
  | true => h.IsTupleIter it a i
  | false => h.IsListIter it a i
def IsK (t : Bool) (h : Heap) (a : Addr) (items : Array Value) : Prop :=
  match t with
  | true => h.IsTuple a items
  | false => h.IsList a items
def itObj (t : Bool) (a : Addr) : Obj :=
  match t with
  | true => { cls := .type "tuple_iterator", data := .fields #[.ref a, .int 0 0] }
  | false => { cls := .type "list_iterator", data := .fields #[.ref a, .int 0 0] }
theorem sqK_inv {X : Cx} {pins : List (Addr × Obj)} {σ : L2.St} {H : Hp} {s : Shared} {t : Bool} {a : Addr} {xs : List V} (I : L2.Inv X pins σ H s) (h : SqK X.K H t a xs) : ∃ its : List Value, Vals xs its ∧ IsK t s.heap a its.toArray := by
  cases t with
  | true => obtain ⟨its, r, p, _⟩ := I.tuple h; exact ⟨its, r, p⟩
  | false => obtain ⟨its, r, p, _⟩ := I.list h; exact ⟨its, r, p.isList⟩
theorem sqK_inj {X : Cx} {pins : List (Addr × Obj)} {σ : L2.St} {H : Hp} {s : Shared} {t : Bool} {a : Addr} {xs ys : List V} (I : L2.Inv X pins σ H s) (h : SqK X.K H t a xs) (h' : SqK X.K H t a ys) : xs = ys := by
  cases t with
  | true => exact I.tuple_inj h h'
  | false => exact I.list_inj h h'
theorem drawsK {prog : Program} {w : World} {A : Around} (hh : A.handled = none) (t : Bool) (it a : Addr) (hne : a ≠ it) (items : Array Value) :
    Draws prog w A it [it, a] items.size (fun i v => items[i]? = some v) (fun i h => ItrK t h it a i ∧ IsK t h a items) := by
  cases t with
  | true => exact Draws.tuple hh it a hne items
  | false => exact Draws.list hh it a hne items
theorem beginsK (t : Bool) (a : Addr) (items : Array Value) : Begins (.ref a) (itObj t a) (fun h => IsK t h a items) := by
  cases t with
  | true => exact begins_tuple a items
  | false => exact begins_list a items
theorem itrK_at {t : Bool} {h h' : Heap} {it a : Addr} {i : Nat} (x : ItrK t h it a i) (e : ∀ o, h.get? it = some o → h'.get? it = some o) : ItrK t h' it a i := by
  cases t with
  | true => exact Heap.IsTupleIter.at x e
  | false => exact Heap.IsListIter.at x e
theorem itrK_obj {t : Bool} {h : Heap} {it a : Addr} {i : Nat} (x : ItrK t h it a i) : ∃ o, h.get? it = some o ∧ ∀ v, o.data ≠ .cell v := by
  cases t with
  | true => obtain ⟨o, e, _, d⟩ := x; exact ⟨o, e, fun v q => by rw [d] at q; cases q⟩
  | false => obtain ⟨o, e, _, d⟩ := x; exact ⟨o, e, fun v q => by rw [d] at q; cases q⟩
theorem isK_lt {t : Bool} {h : Heap} {a : Addr} {items : Array Value} (x : IsK t h a items) : a < h.objs.size := by
  cases t with
  | true => obtain ⟨o, e, _⟩ := x; exact Heap.lt_size e
  | false => obtain ⟨o, e, _⟩ := x; exact Heap.lt_size e
theorem itrK_new {t : Bool} {h : Heap} {it a : Addr} (e : h.get? it = some (itObj t a)) : ItrK t h it a 0 := by
  cases t with
  | true => exact ⟨_, e, rfl, rfl⟩
  | false => exact ⟨_, e, rfl, rfl⟩
/-- pairs of two sequences of n and m items -/
def ItzG (K : PySem.W.Frag) (t u : Bool) (a b : Addr) (n m : Nat) : It :=
  ⟨fun i H => ∃ (xs ys : List V) (x y : V), SqK K H t a xs ∧ SqK K H u b ys ∧ xs.length = n ∧ ys.length = m ∧ xs[i]? = some x ∧ ys[i]? = some y,
    fun i H v H' => ∃ T x y, v = .ref T ∧ H T = none ∧ H' = upd H T (.tup [x, y]) ∧ (∀ xs, SqK K H t a xs → xs[i]? = some x) ∧ ∀ ys, SqK K H u b ys → ys[i]? = some y,
    fun i H => ∃ xs ys : List V, SqK K H t a xs ∧ SqK K H u b ys ∧ xs.length = n ∧ ys.length = m ∧ (n ≤ i ∨ m ≤ i)⟩
theorem turn_zipG {P : Program} {w : World} {K : PySem.W.Frag} {elts : List Expr} {kk : Nat} {tpos : Pos} {t u : Bool} {a b z TI TO i1 i2 : Addr} {n m : Nat} (S : ZipSep2 z TI TO i1 i2 [i1, a] [i2, b]) (h1a : a ≠ i1) (h2b : b ≠ i2) :
    Turn P w K (.Tuple elts kk tpos) (ItzG K t u a b n m) [z, TI, TO, i1, i2] z (fun i h => IsZip h z TI TO .none ∧ IsTupOf2 h TI (.ref i1) (.ref i2) ∧ (∃ x y, IsTupOf2 h TO x y) ∧ ItrK t h i1 a i ∧ ItrK u h i2 b i ∧ i ≤ n ∧ i ≤ m) where
  mem := by simp
  obj := fun i h st c hc => by
    obtain ⟨hz, hTI, ⟨x, y, hTO⟩, h1, h2, _⟩ := st
    have e' : c = z ∨ c = TI ∨ c = TO ∨ c = i1 ∨ c = i2 := by simpa using hc
    rcases e' with q | q | q | q | q
    · rw [q]; exact ⟨_, hz, fun v q => nomatch q⟩
    · rw [q]; exact ⟨_, hTI, fun v q => nomatch q⟩
    · rw [q]; exact ⟨_, hTO, fun v q => nomatch q⟩
    · rw [q]; exact itrK_obj h1
    · rw [q]; exact itrK_obj h2
  keep := fun i h h' st k => by
    obtain ⟨hz, hTI, ⟨x, y, hTO⟩, h1, h2, g⟩ := st
    exact ⟨k z (by simp) _ hz, k TI (by simp) _ hTI, ⟨x, y, k TO (by simp) _ hTO⟩, itrK_at h1 fun o q => k i1 (by simp) o q, itrK_at h2 fun o q => k i2 (by simp) o q, g⟩
  item := by
    intro X hP hw hK hc i pins s σ H E I hf st hg
    subst hP hw hK
    obtain ⟨hz, hTI, ⟨x0, y0, hTO⟩, h1, h2, gn, gm⟩ := st
    obtain ⟨xs, ys, x, y, hqx, hqy, ln, lm, hx, hy⟩ := hg
    obtain ⟨its, rv, p⟩ := sqK_inv I hqx
    obtain ⟨its2, rv2, p2⟩ := sqK_inv I hqy
    obtain ⟨v1, hu, ru⟩ := rv.get hx
    obtain ⟨v2, hu2, ru2⟩ := rv2.get hy
    have hzl : z < s.heap.objs.size := Heap.lt_size hz
    have ix : i < xs.length := (List.getElem?_eq_some_iff.mp hx).1
    have iy : i < ys.length := (List.getElem?_eq_some_iff.mp hy).1
    have il : i < its.toArray.size := by rw [List.size_toArray, ← rv.length]; exact ix
    have il2 : i < its2.toArray.size := by rw [List.size_toArray, ← rv2.length]; exact iy
    refine wpAny_pyNext_zipD2_item S (drawsK (by exact I.ok.hd hc) t i1 a h1a its.toArray) (drawsK (by exact I.ok.hd hc) u i2 b h2b its2.toArray) hz hTI hTO ⟨h1, p⟩ ⟨h2, p2⟩ il il2 fun w1 w2 h' tk hw1 hw2 z' TO' s1 s2 hT hsz hk => ?_
    have e1 : w1 = v1 := Option.some.inj ((hw1.symm).trans (by simpa using hu))
    have e2 : w2 = v2 := Option.some.inj ((hw2.symm).trans (by simpa using hu2))
    subst e1 e2
    refine ⟨_, rfl, wpAny_letOwnedTupleGo_zip (s := { s with heap := h', toks := tk }) z' fun h'' z'' sb => ?_⟩
    have hT2 : h''.get? s.heap.objs.size = some { cls := .type "tuple", data := .seq #[w1, w2] } := (sb.2 _ (Nat.ne_of_gt hzl)).trans hT
    have new : ObjOk X.prog X.w (upd H s.heap.objs.size (.tup [x, y])) h'' s.heap.objs.size (.tup [x, y]) :=
      ⟨by show 2 ≤ sizeLine; decide, [w1, w2], .cons ru (.cons ru2 .nil), ⟨_, hT2, rfl, _, rfl⟩⟩
    have I1 : L2.Inv X pins σ (upd H s.heap.objs.size (.tup [x, y])) { s with heap := h'', toks := tk } :=
      I.turnedNew (t' := tk) (ch := [z, TI, TO, i1, i2]) (fun c o hb q => (sb.2 c (fun q' => hb (by simp [q']))).trans (hk c o (fun q' => hb (by simp [q'])) (fun q' => hb (by simp [q'])) (fun q' => hb (by simp [q'])) (fun q' => hb (by simp [q'])) q)) hf (Nat.le_refl _) new
    refine ⟨.ref s.heap.objs.size, _, I1, rfl, ⟨_, x, y, rfl, I.hok.fresh (Nat.le_refl _), rfl, fun l hl => by rw [sqK_inj I hl hqx]; exact hx, fun l hl => by rw [sqK_inj I hl hqy]; exact hy⟩, ⟨z'', ?_, ⟨w1, w2, ?_⟩, ?_, ?_, by omega, by omega⟩, fun c hcm => ?_⟩
    · exact (sb.2 _ S.TIz).trans (hk _ _ S.TIz S.TITO S.TIi1 S.TIi2 hTI)
    · exact (sb.2 _ S.TOz).trans TO'
    · exact itrK_at s1.1 fun o q => (sb.2 _ (Ne.symm S.zi1)).trans q
    · exact itrK_at s2.1 fun o q => (sb.2 _ (Ne.symm S.zi2)).trans q
    · have hlt : c < s.heap.objs.size := by
        have e' : c = z ∨ c = TI ∨ c = TO ∨ c = i1 ∨ c = i2 := by simpa using hcm
        rcases e' with q | q | q | q | q
        · rw [q]; exact hzl
        · rw [q]; exact Heap.lt_size hTI
        · rw [q]; exact Heap.lt_size hTO
        · rw [q]; obtain ⟨_, e1, _⟩ := itrK_obj h1; exact Heap.lt_size e1
        · rw [q]; obtain ⟨_, e2, _⟩ := itrK_obj h2; exact Heap.lt_size e2
      rw [upd_ne (Nat.ne_of_lt hlt)]
      exact (hf c hcm).1
  done := by
    intro X hP hw hK hc i pins s σ H E I hf st hg
    subst hP hw hK
    obtain ⟨hz, hTI, ⟨x0, y0, hTO⟩, h1, h2, gn, gm⟩ := st
    obtain ⟨xs, ys, hqx, hqy, ln, lm, hend⟩ := hg
    obtain ⟨its, rv, p⟩ := sqK_inv I hqx
    obtain ⟨its2, rv2, p2⟩ := sqK_inv I hqy
    have l1 : its.toArray.size = n := by rw [List.size_toArray, ← rv.length]; exact ln
    have l2 : its2.toArray.size = m := by rw [List.size_toArray, ← rv2.length]; exact lm
    exact wpAny_pyNext_zipD2_end S (drawsK (by exact I.ok.hd hc) t i1 a h1a its.toArray) (drawsK (by exact I.ok.hd hc) u i2 b h2b its2.toArray) hz hTI hTO ⟨h1, p⟩ ⟨h2, p2⟩ (by omega) (by omega) (by omega) fun h' tk hk => ⟨rfl, I.turnedL (t' := tk) (ch := [z, TI, TO, i1, i2]) (fun c o hb q =>
      hk c o (fun q' => hb (by simp [q'])) (fun q' => hb (by simp [q'])) (fun q' => hb (by simp [q'])) (fun q' => hb (by simp [q'])) q) hf⟩
  self := fun A i s Q E st h => wpAny_pyIter_zip st.1 h
def iZipG (K : PySem.W.Frag) (t u : Bool) (ta : TA) : TI := fun σ H R => ta σ H fun vs H1 => ∃ a b xs ys, vs = [.ref a, .ref b] ∧ SqK K H1 t a xs ∧ SqK K H1 u b ys ∧ R (ItzG K t u a b xs.length ys.length) H1
theorem notIn2 {x u v : Nat} (h1 : x ≠ u) (h2 : x ≠ v) : ¬ (x ∈ ([u, v] : List Nat)) := by simp [h1, h2]
theorem sepN (I a b : Nat) (h1 : a < I) (h2 : b < I) : ZipSep2 (I + 4) (I + 2) (I + 3) I (I + 1) [I, a] [I + 1, b] := by
  constructor <;> first | (simp; done) | exact notIn2 (by omega) (by omega) | (simp; omega) | (refine fun e => ?_; have e' : (_ : Nat) = _ := e; omega)
theorem pi_zipG {X : Cx} {t u : Bool} {e e2 : Expr} {ta : TA} {p pos tpos : Pos} {elts : List Expr} {kk : Nat} (hg : Gl X "zip") (hm : X.mg "zip" = none) (ha : PA X [e, e2] ta)
    (hs : starEach [e, e2] X.env = (false, eval e X.env) :: starEach [e2] X.env := by rfl) (hpl : (backTo pos (starEach [e2] X.env)).any (·.1) = false := by rfl) :
    PI X (.Tuple elts kk tpos) (.Call (.Name "zip" p) [e, e2] [] pos) (iZipG X.K t u ta) := by
  refine ⟨fun pins s σ H R I h => ?_⟩
  refine Call_ (ld_blt I hg hm PyProof.Rows.boot_zip (PyProof.Rows.callWith_type1 (thn (ha.run pos pins s σ H _ I h) fun us s1 ⟨vs, H1, I1, r1, q1⟩ => ?_) hs hpl))
  obtain ⟨a, b, xs, ys, ex, hqx, hqy, q⟩ := q1
  subst ex
  cases r1 with
  | cons r rr =>
    cases rr with
    | cons r' rr =>
      cases rr
      cases r
      cases r'
      have fresh5 : ∀ c, c ∈ [s1.heap.objs.size + 4, s1.heap.objs.size + 2, s1.heap.objs.size + 3, s1.heap.objs.size, s1.heap.objs.size + 1] → FpOk X pins H1 c := fun c hcm => by
        have e' : c = s1.heap.objs.size + 4 ∨ c = s1.heap.objs.size + 2 ∨ c = s1.heap.objs.size + 3 ∨ c = s1.heap.objs.size ∨ c = s1.heap.objs.size + 1 := by simpa using hcm
        have hle : s1.heap.objs.size ≤ c := by
          rcases e' with z | z | z | z | z
          · rw [z]; exact Nat.le_add_right _ _
          · rw [z]; exact Nat.le_add_right _ _
          · rw [z]; exact Nat.le_add_right _ _
          · rw [z]; exact Nat.le_refl _
          · rw [z]; exact Nat.le_add_right _ _
        exact I1.fpOk hle (I1.hok.fresh hle)
      obtain ⟨its, rv, p1⟩ := sqK_inv I1 hqx
      obtain ⟨its2, rv2, p2⟩ := sqK_inv I1 hqy
      have la := isK_lt p1
      have lb := isK_lt p2
      refine zip_begins2 (beginsK t a its.toArray) (beginsK u b its2.toArray) p1 p2 fun h' hz hTI hTO g1 g2 hsz hk => wpAny_pyIter_zip hz ?_
      have I2 : L2.Inv X pins σ H1 { s1 with heap := h' } := I1.kept (t' := s1.toks) hk
      exact ⟨s1.heap.objs.size + 4, [s1.heap.objs.size + 4, s1.heap.objs.size + 2, s1.heap.objs.size + 3, s1.heap.objs.size, s1.heap.objs.size + 1], _, _, H1, rfl, I2, turn_zipG (sepN s1.heap.objs.size a b la lb) (Nat.ne_of_lt la) (Nat.ne_of_lt (Nat.lt_succ_of_lt lb)), ⟨hz, hTI, ⟨_, _, hTO⟩, itrK_new g1, itrK_new g2, Nat.zero_le _, Nat.zero_le _⟩, fresh5, q⟩
section
variable {K : PySem.W.Frag} {G : Hp} {R : List Addr} {H : Hp} {h : IH}
theorem sqK_same {G' : Hp} {t : Bool} {a : Addr} {xs : List V} (s : Same G G') (h : SqK K G t a xs) : SqK K G' t a xs := by
  cases t with
  | true => exact same_sqT s h
  | false => exact same_sqL s h
theorem it_zipG {t u : Bool} {q q' : Addr} {xs ys : List V} {ts us : List T} (hq : SqK K G t q xs) (r : RpL K G R ts xs) (hq' : SqK K G u q' ys) (r' : RpL K G R us ys) : ItOk K G R (ItzG K t u q q' xs.length ys.length) (zipT ts us) where
  go := fun i G1 R1 H1 h1 g s p hi => by
    rw [zipT_len] at hi
    obtain ⟨x, hx⟩ : ∃ x, xs[i]? = some x := ⟨_, List.getElem?_eq_getElem (by rw [← r.len]; omega)⟩
    obtain ⟨y, hy⟩ : ∃ x, ys[i]? = some x := ⟨_, List.getElem?_eq_getElem (by rw [← r'.len]; omega)⟩
    exact ⟨xs, ys, x, y, sqK_same g.same (sqK_same s hq), sqK_same g.same (sqK_same s hq'), rfl, rfl, hx, hy⟩
  yld := fun i t G1 R1 H1 h1 x H2 g s p ht y => by
    obtain ⟨T, v, v', rfl, nT, rfl, y, y'⟩ := y
    obtain ⟨u, w, hu, hw, rfl⟩ := zipT_get ht
    obtain ⟨z, hz, rz⟩ := r.get hu
    obtain ⟨z', hz', rz'⟩ := r'.get hw
    have e := (y xs (sqK_same g.same (sqK_same s hq))).symm.trans hz
    have e' := (y' ys (sqK_same g.same (sqK_same s hq'))).symm.trans hz'
    cases e
    cases e'
    obtain ⟨g2, e2⟩ := g.newG (o := .tup [v, v']) nT
    exact ⟨_, g2, e2, .tup (SqT.of upd_same) (.cons (e2.rp (rz.mono s p)) (.cons (e2.rp (rz'.mono s p)) .nil))⟩
  stop := fun i G1 R1 H1 h1 g s p hi => ⟨xs, ys, sqK_same g.same (sqK_same s hq), sqK_same g.same (sqK_same s hq'), rfl, rfl, by rw [zipT_len] at hi; rw [← r.len, ← r'.len]; omega⟩
end
section
variable {X : Cx} {E : WX} {lin : List Nat} {a b : Expr} {fa fb : SE} {p pos tpos : Pos} {elts : List Expr} {kk : Nat}
theorem pib_zTL (hg : Gl X "zip") (hm : X.mg "zip" = none) (ha : PEB X E lin .fz a fa) (hb : PEB X E lin .fz b fb) (hs : starEach [a, b] X.env = (false, eval a X.env) :: starEach [b] X.env := by rfl) (hs2 : starEach [b] X.env = (false, eval b X.env) :: starEach [] X.env := by rfl)
    (hpl : (backTo pos (starEach [b] X.env)).any (·.1) = false := by rfl) : PIB X E lin (.Tuple elts kk tpos) (.Call (.Name "zip" p) [a, b] [] pos) (iZ gT gL fa fb) :=
  impI (pi_zipG (t := true) (u := false) hg hm (pa_cons ha (pa_cons hb pa_nil hs2) hs) hs hpl) fun σ H Q ⟨G, R, τ, h, N0, gd, fr, o⟩ => by
    refine lE.then gd fr o fun x vx h1 G1 R1 H1 g1 e1 f1 r1 o1 => ?_
    refine lE.then g1 f1 o1 fun y vy h2 G2 R2 H2 g2 e2 f2 r2 o2 => ?_
    have r1' := e2.rp r1
    cases r1' with
    | tup q k =>
      cases r2 with
      | lst q2 k2 => exact ⟨_, _, _, _, rfl, sqK_same (t := true) g2.same q, sqK_same (t := false) g2.same q2, o2 G2 R2 H2 g2 .refl _ (it_zipG (t := true) (u := false) q k q2 k2)⟩
      | _ => exact o2.elim
    | _ => exact o2.elim
theorem pib_zLT (hg : Gl X "zip") (hm : X.mg "zip" = none) (ha : PEB X E lin .fz a fa) (hb : PEB X E lin .fz b fb) (hs : starEach [a, b] X.env = (false, eval a X.env) :: starEach [b] X.env := by rfl) (hs2 : starEach [b] X.env = (false, eval b X.env) :: starEach [] X.env := by rfl)
    (hpl : (backTo pos (starEach [b] X.env)).any (·.1) = false := by rfl) : PIB X E lin (.Tuple elts kk tpos) (.Call (.Name "zip" p) [a, b] [] pos) (iZ gL gT fa fb) :=
  impI (pi_zipG (t := false) (u := true) hg hm (pa_cons ha (pa_cons hb pa_nil hs2) hs) hs hpl) fun σ H Q ⟨G, R, τ, h, N0, gd, fr, o⟩ => by
    refine lE.then gd fr o fun x vx h1 G1 R1 H1 g1 e1 f1 r1 o1 => ?_
    refine lE.then g1 f1 o1 fun y vy h2 G2 R2 H2 g2 e2 f2 r2 o2 => ?_
    have r1' := e2.rp r1
    cases r1' with
    | lst q k =>
      cases r2 with
      | tup q2 k2 => exact ⟨_, _, _, _, rfl, sqK_same (t := false) g2.same q, sqK_same (t := true) g2.same q2, o2 G2 R2 H2 g2 .refl _ (it_zipG (t := false) (u := true) q k q2 k2)⟩
      | _ => exact o2.elim
    | _ => exact o2.elim
end
end GB
namespace GB
open PySem PySem.Spec PyProof.Rows L2

/-! ### lists lent to a def that hands back a scalar -/
inductive LiveL (K : PySem.W.Frag) (G : Hp) (R : List Addr) (H : Hp) : List T → List V → Prop
  | nil : LiveL K G R H [] []
  | cons {t v ts vs} : Live K G R H t v → LiveL K G R H ts vs → LiveL K G R H (t :: ts) (v :: vs)
theorem LiveL.ext {K : PySem.W.Frag} {G G' : Hp} {R R' : List Addr} {H H' : Hp} (e : Ext G R H G' R' H') : ∀ {ts : List T} {vs : List V}, LiveL K G R H ts vs → LiveL K G' R' H' ts vs
  | _, _, .nil => .nil
  | _, _, .cons a b => .cons (Live.ext e a) (LiveL.ext e b)
def lAL (K : PySem.W.Frag) (mg : Str → Option Value) (E : WX) (lin : List Nat) (f : SA) : TA := fun σ H Q =>
  ∃ G R τ h N0, Gd K G R H h ∧ Fr K lin G R H τ σ N0 ∧ Out K mg (fun c d H' => E c d σ H') G R H (f τ h) fun ts G' R' H' => ∀ vs, LiveL K G' R' H' ts vs → Q vs H'
def PALB (X : Cx) (E : WX) (lin : List Nat) (es : List Expr) (f : SA) : Prop := PA X es (lAL X.K X.mg E lin f)
def scal : T → Bool
  | .non => true
  | .bl _ => true
  | .int _ => true
  | .str _ => true
  | _ => false
def flatH (h : IH) : Bool := h.all fun c => match c with
  | .lst ts => ts.all scal
theorem scal_rp {K : PySem.W.Frag} {G G' : Hp} {R R' : List Addr} {t : T} {v : V} (e : scal t = true) (r : Rp K G R t v) : Rp K G' R' t v := by
  cases r with
  | non => exact .non
  | bl b => exact .bl b
  | int i => exact .int i
  | str i => exact .str i
  | _ => cases e
theorem scals_rp {K : PySem.W.Frag} {G G' : Hp} {R R' : List Addr} : ∀ {ts : List T} {vs : List V}, ts.all scal = true → RpL K G R ts vs → RpL K G' R' ts vs
  | _, _, _, .nil => .nil
  | _, _, e, .cons a b => by
    rw [List.all_cons, Bool.and_eq_true] at e
    exact .cons (scal_rp e.1 a) (scals_rp e.2 b)
/-- what may be read goes into a ground, for a while -/
theorem freezeL {K : PySem.W.Frag} {R : List Addr} {H : Hp} {h : IH} : ∀ {G : Hp} {ts : List T} {vs : List V}, Gd K G R H h → LiveL K G R H ts vs → ∃ G', Gd K G' R H h ∧ Same G G' ∧ RpL K G' R ts vs
  | G, _, _, g, .nil => ⟨G, g, fun _ _ e => e, .nil⟩
  | G, _, _, g, .cons a b => by
    obtain ⟨G1, g1, s1, r1⟩ := freezeL g b
    rcases a with a | ⟨us, p, xs, e1, e2, e3, e4, e5⟩
    · exact ⟨G1, g1, s1, .cons (a.mono s1 (List.prefix_refl _)) r1⟩
    · subst e1 e2
      cases q : G1 p with
      | some o =>
        have := g1.same _ _ q
        rw [e3] at this
        cases this
        exact ⟨G1, g1, s1, .cons (.lst (SqL.of q) (e5.mono s1 (List.prefix_refl _))) r1⟩
      | none =>
        obtain ⟨g2, s2⟩ := g1.freeze e3 q e4
        exact ⟨_, g2, same_trans s1 s2, .cons (.lst (SqL.of upd_same) (e5.mono (same_trans s1 s2) (List.prefix_refl _))) (r1.mono s2 (List.prefix_refl _))⟩
def eCallB (F : SF) (f : SA) : SE := fun τ h => (f τ h).bind fun ts h1 => match F ts h1 with
  | .ok t h2 => if (scal t && flatH h2) = true then .ok t h2 else .no
  | _ => .no
section
variable {X : Cx} {E : WX} {lin : List Nat} {kd : Kd} {a : Expr} {es : List Expr} {fs : SA} {fa : SE} {pos p : Pos} {x : Str} {k j : Nat} {rk : Kd} {F : SF}
theorem pal_nil : PALB X E lin [] aNil := impA pa_nil fun σ H Q ⟨G, R, τ, h, N0, g, fr, o⟩ => o G R H g .refl [] .nil
theorem lAL.then {K : PySem.W.Frag} {mg : Str → Option Value} {G : Hp} {R : List Addr} {H : Hp} {h : IH} {τ : Ev} {σ : L2.St} {N0 : Addr → Prop} {α : Type} {P : α → Hp → List Addr → Hp → Prop} {f : SA} {k : List T → IH → Rs α} {Q : List V → Hp → Prop} (g : Gd K G R H h) (fr : Fr K lin G R H τ σ N0) (o : Out K mg (fun c d H' => E c d σ H') G R H ((f τ h).bind k) P)
    (hq : ∀ ts vs h1 G1 R1 H1, Gd K G1 R1 H1 h1 → Ext G R H G1 R1 H1 → Fr K lin G1 R1 H1 τ σ N0 → LiveL K G1 R1 H1 ts vs → Out K mg (fun c d H' => E c d σ H') G1 R1 H1 (k ts h1) P → Q vs H1) : lAL K mg E lin f σ H Q := by
  refine ⟨G, R, τ, h, N0, g, fr, ?_⟩
  cases e : f τ h with
  | ok t h1 =>
    rw [e] at o
    exact fun G1 R1 H1 g1 e1 v r => hq t v h1 G1 R1 H1 g1 e1 (fr.ext e1) r (Out.on (h := h) g e1 o)
  | exc x h1 => rw [e] at o; exact o
  | no => rw [e] at o; exact o
theorem pal_cons (ha : PEB X E lin kd a fa) (hr : PALB X E lin es fs) (hs : starEach (a :: es) X.env = (false, eval a X.env) :: starEach es X.env := by rfl) : PALB X E lin (a :: es) (aCons fa fs) := impA (pa_cons ha hr hs) fun σ H Q ⟨G, R, τ, h, N0, gd, fr, o⟩ => by
  refine lE.then gd fr o fun x vx h1 G1 R1 H1 g1 e1 f1 r1 o1 => ?_
  refine lAL.then g1 f1 o1 fun ts vs h2 G2 R2 H2 g2 e2 f2 r2 o2 => ?_
  exact o2 G2 R2 H2 g2 .refl _ (.cons (Live.ext e2 (Res.live r1)) r2)
theorem pb_callB (C : CalB X.prog X.w X.K X.mg X.base k x rk F) (hr : Room j X.A) (hk : k ≤ j) (tk : Takes X E) (hg : Gl X x) (ha : PALB X E lin (a :: es) fs) (hdb : (x == ("__debug__" : Str)) = false := by decide)
    (he : starEach (a :: es) X.env = (false, eval a X.env) :: starEach es X.env := by rfl) (hpl : (backTo pos (starEach es X.env)).any (·.1) = false := by rfl) : PEB X E lin .fz (.Call (.Name x p) (a :: es) [] pos) (eCallB F fs) := by
  obtain ⟨f, fd, ps, ok, hm, kp, hb⟩ := C.ex
  refine impE (pe_callSD (E := fun σ c d H => E c d σ H) ok (hr.mono hk) hg hm kp hb .nil (fun σ => passAt tk σ) ha hdb he hpl) fun σ H Q ⟨G, R, τ, h, N0, gd, fr, o⟩ => ?_
  refine lAL.then gd fr o fun ts vs h1 G1 R1 H1 g1 e1 f1 r1 o1 => ?_
  obtain ⟨G2, g2, s2, r2⟩ := freezeL g1 r1
  refine ⟨G2, R1, ts, h1, g2, by rw [List.append_nil]; exact r2, ?_⟩
  cases q2 : F ts h1 with
  | ok t h' =>
    rw [q2] at o1
    have o2 : Out X.K X.mg (fun c d H' => E c d σ H') G1 R1 H1 (if (scal t && flatH h') = true then Rs.ok t h' else .no) (fun t G' R' H' => ∀ v, Res X.K .fz H t v G' R' H' → Q v H') := o1
    split at o2
    · rename_i hc
      rw [Bool.and_eq_true] at hc
      intro G' R' H' g' e' v r
      have sG : Same G1 G' := same_trans s2 e'.same
      refine o2 G1 R' H' ⟨same_trans sG g'.same, fun b mb => ?_, g'.nd, g'.len, fun n b c q1 q2 => ?_⟩ ⟨fun _ _ e => e, e'.pre, e'.kept, fun b n z => absurd n z, e'.rnew⟩ v ?_
      · cases q : G1 b with
        | none => rfl
        | some u =>
          have := g'.off b mb
          rw [sG _ _ q] at this; cases this
      · have hcell := g'.cell n b c q1 q2
        cases c with
        | lst us =>
          obtain ⟨xs, h3, h4⟩ := hcell
          have hf := List.all_eq_true.mp hc.2 _ (List.mem_of_getElem? q2)
          exact ⟨xs, h3, scals_rp hf h4⟩
      · have lv : Live X.K G' R' H' t v := Res.live r
        rcases lv with lv | ⟨us, p, xs, e1, _⟩
        · exact scal_rp hc.1 lv
        · rw [e1] at hc; cases hc.1
    · exact o2.elim
  | exc x h' => rw [q2] at o1; exact o1.elim
  | no => rw [q2] at o1; exact o1.elim
end
end GB
namespace GB
open PySem PySem.Spec PyProof.Rows L2

/-! ### what comes out, as a promise -/
def OkD {α : Type} (r : Rs α) (P : α → IH → Prop) : Prop :=
  match r with
  | .ok a h => P a h
  | _ => False
def OkSD (r : Fl) (N : Ev → IH → Prop) (Q : T → IH → Prop) : Prop :=
  match r with
  | .nx τ h => N τ h
  | .rt t h => Q t h
  | _ => False
section
variable {α β : Type} {r : Rs α} {P P' : α → IH → Prop} {a : α} {h : IH} {τ : Ev} {k : α → IH → Rs β} {Q : β → IH → Prop} {N N' : Ev → IH → Prop} {M M' : T → IH → Prop}
theorem OkD.imp (o : OkD r P) (i : ∀ a h, P a h → P' a h) : OkD r P' := by
  cases r with
  | ok a h => exact i a h o
  | _ => exact o.elim
theorem OkSD.imp {r : Fl} (o : OkSD r N M) (i : ∀ a h, N a h → N' a h) (j : ∀ a h, M a h → M' a h) : OkSD r N' M' := by
  cases r with
  | nx τ h => exact i τ h o
  | rt τ h => exact j τ h o
  | _ => exact o.elim
theorem OkD.ex (o : OkD r P) : ∃ a h, r = .ok a h ∧ P a h := by
  cases r with
  | ok a h => exact ⟨a, h, rfl, o⟩
  | _ => exact o.elim
theorem OkD.eq (o : OkD r fun b h' => b = a ∧ h' = h) : r = .ok a h := by
  obtain ⟨b, h', e, rfl, rfl⟩ := o.ex
  exact e
theorem OkD.of_eq (e : r = .ok a h) (p : P a h) : OkD r P := by rw [e]; exact p
theorem d_w_ok : OkD (.ok a h) P = P a h := rfl
theorem d_w_no : OkD (Rs.no : Rs α) P = False := rfl
theorem d_w_bind : OkD (r.bind k) Q = OkD r fun a h => OkD (k a h) Q := by cases r <;> rfl
theorem d_w_of {o : Option α} : OkD (Rs.of o h) P = ∃ a, o = some a ∧ P a h := by
  cases o with
  | none => exact propext ⟨fun z => z.elim, fun ⟨_, z, _⟩ => nomatch z⟩
  | some a => exact propext ⟨fun z => ⟨a, rfl, z⟩, fun ⟨_, z, p⟩ => by cases z; exact p⟩
theorem d_w_fl {k : α → IH → Fl} : OkSD (r.fl τ k) N M = OkD r fun a h => OkSD (k a h) N M := by cases r <;> rfl
theorem d_w_ite {c : Prop} [Decidable c] {x y : Rs α} : OkD (if c then x else y) P = if c then OkD x P else OkD y P := by split <;> rfl
theorem d_w_iteN {c : Prop} [Decidable c] {x : Rs α} : OkD (if c then x else .no) P = (c ∧ OkD x P) := by
  by_cases q : c
  · rw [if_pos q]; exact propext ⟨fun z => ⟨q, z⟩, fun z => z.2⟩
  · rw [if_neg q]; exact propext ⟨fun z => z.elim, fun z => q z.1⟩
theorem d_v_iteN {c : Prop} [Decidable c] {x : Fl} : OkSD (if c then x else .no) N M = (c ∧ OkSD x N M) := by
  by_cases q : c
  · rw [if_pos q]; exact propext ⟨fun z => ⟨q, z⟩, fun z => z.2⟩
  · rw [if_neg q]; exact propext ⟨fun z => z.elim, fun z => q z.1⟩
theorem ex_ite {c : Prop} [Decidable c] {x : α} {p : α → Prop} : (∃ z, (if c then some x else none) = some z ∧ p z) = (c ∧ p x) := by
  by_cases q : c
  · rw [if_pos q]; exact propext ⟨fun ⟨z, e, k⟩ => by cases e; exact ⟨q, k⟩, fun z => ⟨x, rfl, z.2⟩⟩
  · rw [if_neg q]; exact propext ⟨fun ⟨z, e, k⟩ => (by cases e), fun z => (q z.1).elim⟩
theorem ex_some {x : α} {p : α → Prop} : (∃ z, some x = some z ∧ p z) = p x := propext ⟨fun ⟨z, e, k⟩ => by cases e; exact k, fun z => ⟨x, rfl, z⟩⟩
theorem ex_map {o : Option α} {f : α → β} {p : β → Prop} : (∃ z, o.map f = some z ∧ p z) = ∃ z, o = some z ∧ p (f z) := by
  cases o with
  | none => exact propext ⟨fun ⟨_, z, _⟩ => (nomatch z), fun ⟨_, z, _⟩ => (nomatch z)⟩
  | some x => exact propext ⟨fun ⟨_, z, p⟩ => by cases z; exact ⟨x, rfl, p⟩, fun ⟨_, z, p⟩ => by cases z; exact ⟨_, rfl, p⟩⟩
theorem ex_bind {o : Option α} {f : α → Option β} {p : β → Prop} : (∃ z, o.bind f = some z ∧ p z) = ∃ y, o = some y ∧ ∃ z, f y = some z ∧ p z := by
  cases o with
  | none => exact propext ⟨fun ⟨_, z, _⟩ => (nomatch z), fun ⟨_, z, _⟩ => (nomatch z)⟩
  | some x => exact propext ⟨fun ⟨_, z, p⟩ => ⟨x, rfl, _, z, p⟩, fun ⟨_, z, _, y, p⟩ => by cases z; exact ⟨_, y, p⟩⟩
/-! the parts -/
variable {P1 : T → IH → Prop} {PL : List T → IH → Prop} {PB : Bool → IH → Prop} {t : T} {i : Nat} {f g c : SE} {fs : SA} {sa sb : SB} {s1 s2 : SS} {o1 o2 : SO} {pt : Pat} {it : SI}
theorem d_w_C : OkD (eC t τ h) P1 = P1 t h := rfl
theorem d_w_V : OkD (eV i τ h) P1 = ∃ t, τ[i]? = some (some t) ∧ P1 t h := by
  unfold eV
  split
  · rename_i t e; rw [e]; exact propext ⟨fun z => ⟨t, rfl, z⟩, fun ⟨_, z, p⟩ => by cases z; exact p⟩
  · rename_i e; exact propext ⟨fun z => z.elim, fun ⟨t, z, p⟩ => (e t z).elim⟩
theorem d_w_Bin {o : G2} : OkD (eBin o f g τ h) P1 = OkD (f τ h) fun x h1 => OkD (g τ h1) fun y h2 => ∃ z, o x y h2 = some z ∧ P1 z h2 := by
  unfold eBin; simp only [d_w_bind, d_w_of]
theorem d_w_Un {o : G1} : OkD (eUn o f τ h) P1 = OkD (f τ h) fun x h1 => ∃ z, o x h1 = some z ∧ P1 z h1 := by
  unfold eUn; simp only [d_w_bind, d_w_of]
theorem d_w_Nil : OkD (aNil τ h) PL = PL [] h := rfl
theorem d_w_Cons : OkD (aCons f fs τ h) PL = OkD (f τ h) fun t h1 => OkD (fs τ h1) fun ts h2 => PL (t :: ts) h2 := by
  unfold aCons; simp only [d_w_bind, d_w_ok]
theorem d_w_Tup : OkD (eTup fs τ h) P1 = OkD (fs τ h) fun ts h1 => ts.length ≤ sizeLine ∧ P1 (.tup ts) h1 := by
  unfold eTup; simp only [d_w_bind, d_w_iteN, d_w_ok]
theorem d_w_Lst : OkD (eLst fs τ h) P1 = OkD (fs τ h) fun ts h1 => ts.length ≤ sizeLine ∧ P1 (.lst ts) h1 := by
  unfold eLst; simp only [d_w_bind, d_w_iteN, d_w_ok]
theorem d_w_Box : OkD (eBox fs τ h) P1 = OkD (fs τ h) fun ts h1 => ts.length ≤ sizeLine ∧ P1 (.box h1.length) (h1 ++ [.lst ts]) := by
  unfold eBox; simp only [d_w_bind, d_w_iteN, d_w_ok]
theorem d_w_Of : OkD (sOf f τ h) PB = OkD (f τ h) fun x h1 => ∃ b, x = .bl b ∧ PB b h1 := by
  unfold sOf
  rw [d_w_bind]
  congr 1; funext x h1
  cases x with
  | bl b => exact propext ⟨fun z => ⟨b, rfl, z⟩, fun ⟨_, z, p⟩ => by cases z; exact p⟩
  | _ => exact propext ⟨fun z => z.elim, fun ⟨_, z, p⟩ => nomatch z⟩
theorem d_w_And : OkD (sAnd sa sb τ h) PB = OkD (sa τ h) fun b h1 => if b = true then OkD (sb τ h1) PB else PB false h1 := by
  unfold sAnd; simp only [d_w_bind, d_w_ite, d_w_ok]
theorem d_w_Or : OkD (sOr sa sb τ h) PB = OkD (sa τ h) fun b h1 => if b = true then PB true h1 else OkD (sb τ h1) PB := by
  unfold sOr; simp only [d_w_bind, d_w_ite, d_w_ok]
theorem d_w_Not : OkD (sNot sa τ h) PB = OkD (sa τ h) fun b h1 => PB (!b) h1 := by
  unfold sNot; simp only [d_w_bind, d_w_ok]
theorem d_w_True : OkD (sTrue τ h) PB = PB true h := rfl
theorem d_w_eAnd : OkD (eAnd f g τ h) P1 = OkD (f τ h) fun x h1 => ∃ b, x = .bl b ∧ if b = true then OkD (g τ h1) P1 else P1 (.bl false) h1 := by
  unfold eAnd; simp only [d_w_bind, d_w_ite, d_w_ok, d_w_Of]
theorem d_w_eOr : OkD (eOr f g τ h) P1 = OkD (f τ h) fun x h1 => ∃ b, x = .bl b ∧ if b = true then P1 (.bl true) h1 else OkD (g τ h1) P1 := by
  unfold eOr; simp only [d_w_bind, d_w_ite, d_w_ok, d_w_Of]
theorem d_w_eNot : OkD (eNot f τ h) P1 = OkD (f τ h) fun x h1 => ∃ b, x = .bl b ∧ P1 (.bl (!b)) h1 := by
  unfold eNot; simp only [d_w_bind, d_w_ok, d_w_Of]
theorem d_w_If : OkD (eIf sa f g τ h) P1 = OkD (sa τ h) fun b h1 => if b = true then OkD (f τ h1) P1 else OkD (g τ h1) P1 := by
  unfold eIf; simp only [d_w_bind, d_w_ite]
theorem d_w_Chain {o1 o2 : G2} : OkD (eChain o1 o2 f g c τ h) P1 = OkD (f τ h) fun x h1 => OkD (g τ h1) fun y h2 => ∃ z, o1 x y h2 = some z ∧ ∃ b, z = .bl b ∧ if b = true then OkD (c τ h2) fun w h4 => ∃ z, o2 y w h4 = some z ∧ P1 z h4 else P1 (.bl false) h2 := by
  unfold eChain
  simp only [d_w_bind, d_w_of]
  congr 1; funext x h1; congr 1; funext y h2; congr 1; funext z
  refine congrArg (And _) ?_
  cases z with
  | bl b => cases b with
    | true => simp only [d_w_bind, d_w_of]; exact propext ⟨fun z => ⟨true, rfl, by rw [if_pos rfl]; exact z⟩, fun ⟨_, z, p⟩ => by cases z; rw [if_pos rfl] at p; exact p⟩
    | false => exact propext ⟨fun z => ⟨false, rfl, z⟩, fun ⟨_, z, p⟩ => by cases z; exact p⟩
  | _ => exact propext ⟨fun z => z.elim, fun ⟨_, z, p⟩ => nomatch z⟩
theorem d_w_oN {PO : Option Int → IH → Prop} : OkD (oNone τ h) PO = PO none h := rfl
theorem d_w_oS {PO : Option Int → IH → Prop} : OkD (oSome f τ h) PO = OkD (f τ h) fun x h1 => ∃ i, x = .int i ∧ PO (some i) h1 := by
  unfold oSome
  rw [d_w_bind]
  congr 1; funext x h1
  cases x with
  | int b => exact propext ⟨fun z => ⟨b, rfl, z⟩, fun ⟨_, z, p⟩ => by cases z; exact p⟩
  | _ => exact propext ⟨fun z => z.elim, fun ⟨_, z, p⟩ => nomatch z⟩
theorem d_w_Sl {o : G3} : OkD (eSl o f o1 o2 τ h) P1 = OkD (f τ h) fun x h1 => OkD (o1 τ h1) fun l h2 => OkD (o2 τ h2) fun u h3 => ∃ z, o x l u h3 = some z ∧ P1 z h3 := by
  unfold eSl; simp only [d_w_bind, d_w_of]
theorem d_w_Call {F : SF} : OkD (eCall F fs τ h) P1 = OkD (fs τ h) fun ts h1 => OkD (F ts h1) P1 := by
  unfold eCall; rw [d_w_bind]
theorem d_w_runF {n nl : Nat} {ts : List T} : OkD (runF n nl s1 ts h) P1 = (ts.length = n ∧ OkSD (s1 (ts.map some ++ List.replicate (nl - n) none) h) (fun _ h' => P1 .non h') P1) := by
  unfold runF
  rw [d_w_iteN]
  refine congrArg (And _) ?_
  cases s1 (ts.map some ++ List.replicate (nl - n) none) h <;> rfl
theorem d_w_runO {n nl : Nat} {ts : List T} : OkD (runO n nl s1 ts h) P1 = (ts.length = n ∧ OkSD (s1 (ts.map some ++ List.replicate (nl - n) none) h) (fun _ h' => False) P1) := by
  unfold runO
  rw [d_w_iteN]
  refine congrArg (And _) ?_
  cases s1 (ts.map some ++ List.replicate (nl - n) none) h <;> rfl
/-! statements -/
theorem d_v_nx : OkSD (.nx τ h) N M = N τ h := rfl
theorem d_v_rt : OkSD (.rt t h) N M = M t h := rfl
theorem d_v_Skip : OkSD (sSkip τ h) N M = N τ h := rfl
theorem d_v_Seq : OkSD (sSeq s1 s2 τ h) N M = OkSD (s1 τ h) (fun τ' h' => OkSD (s2 τ' h') N M) M := by
  unfold sSeq; cases s1 τ h <;> rfl
theorem d_v_If : OkSD (sIf sa s1 s2 τ h) N M = OkD (sa τ h) fun b h1 => if b = true then OkSD (s1 τ h1) N M else OkSD (s2 τ h1) N M := by
  unfold sIf; rw [d_w_fl]; congr 1; funext b h1; cases b <;> rfl
theorem d_v_Ret : OkSD (sRet f τ h) N M = OkD (f τ h) M := by unfold sRet; rw [d_w_fl]; rfl
theorem d_v_Expr : OkSD (sExpr f τ h) N M = OkD (f τ h) fun _ h1 => N τ h1 := by unfold sExpr; rw [d_w_fl]; rfl
theorem d_v_Set : OkSD (sSet i f τ h) N M = OkD (f τ h) fun t h1 => N (τ.set i (some t)) h1 := by unfold sSet; rw [d_w_fl]; rfl
theorem d_v_Tp : OkSD (sTp pt f τ h) N M = OkD (f τ h) fun t h1 => ∃ τ', bindP pt t τ = some τ' ∧ N τ' h1 := by
  unfold sTp; rw [d_w_fl]; congr 1; funext t h1
  cases bindP pt t τ with
  | none => exact propext ⟨fun z => z.elim, fun ⟨_, z, _⟩ => nomatch z⟩
  | some a => exact propext ⟨fun z => ⟨a, rfl, z⟩, fun ⟨_, z, p⟩ => by cases z; exact p⟩
theorem d_v_Par {is : List Nat} : OkSD (sPar is fs τ h) N M = OkD (fs τ h) fun ts h1 => ∃ τ', setAll is ts τ = some τ' ∧ N τ' h1 := by
  unfold sPar; rw [d_w_fl]; congr 1; funext t h1
  cases setAll is t τ with
  | none => exact propext ⟨fun z => z.elim, fun ⟨_, z, _⟩ => nomatch z⟩
  | some a => exact propext ⟨fun z => ⟨a, rfl, z⟩, fun ⟨_, z, p⟩ => by cases z; exact p⟩
theorem d_v_For : OkSD (sFor it pt s1 τ h) N M = OkD (it τ h) fun ts h1 => OkSD (forGo pt s1 ts τ h1) N M := by unfold sFor; rw [d_w_fl]
theorem d_v_forN : OkSD (forGo pt s1 [] τ h) N M = N τ h := rfl
theorem d_v_forC {ts : List T} : OkSD (forGo pt s1 (t :: ts) τ h) N M = ∃ τ1, bindP pt t τ = some τ1 ∧ OkSD (s1 τ1 h) (fun τ2 h2 => OkSD (forGo pt s1 ts τ2 h2) N M) M := by
  show OkSD (match bindP pt t τ with | none => .no | some τ1 => match s1 τ1 h with | .nx τ2 h2 => forGo pt s1 ts τ2 h2 | r => r) N M = _
  cases bindP pt t τ with
  | none => exact propext ⟨fun z => z.elim, fun ⟨_, z, _⟩ => nomatch z⟩
  | some a =>
    have e : OkSD (match s1 a h with | .nx τ2 h2 => forGo pt s1 ts τ2 h2 | r => r) N M = OkSD (s1 a h) (fun τ2 h2 => OkSD (forGo pt s1 ts τ2 h2) N M) M := by cases s1 a h <;> rfl
    exact e.trans (propext ⟨fun z => ⟨a, rfl, z⟩, fun ⟨_, z, p⟩ => by cases z; exact p⟩)
theorem d_v_App : OkSD (sApp i f τ h) N M = ∃ ts, τ[i]? = some (some (.lst ts)) ∧ OkD (f τ h) fun t h1 => ts.length < sizeLine ∧ N (τ.set i (some (.lst (ts ++ [t])))) h1 := by
  unfold sApp
  split
  · rename_i ts e
    simp only [d_w_fl, d_v_iteN, d_v_nx, e]
    exact propext ⟨fun z => ⟨ts, rfl, z⟩, fun ⟨_, z, p⟩ => by cases z; exact p⟩
  · rename_i e
    exact propext ⟨fun z => z.elim, fun ⟨ts, z, p⟩ => (e ts z).elim⟩
theorem d_v_Mut {w : List T → List T} : OkSD (sMut i w τ h) N M = ∃ ts, τ[i]? = some (some (.lst ts)) ∧ N (τ.set i (some (.lst (w ts)))) h := by
  unfold sMut
  split
  · rename_i ts e
    simp only [d_v_nx, e]
    exact propext ⟨fun z => ⟨ts, rfl, z⟩, fun ⟨_, z, p⟩ => by cases z; exact p⟩
  · rename_i e
    exact propext ⟨fun z => z.elim, fun ⟨ts, z, p⟩ => (e ts z).elim⟩
theorem d_v_Ext : OkSD (sExt i f τ h) N M = ∃ ts, τ[i]? = some (some (.lst ts)) ∧ OkD (f τ h) fun t h1 => ∃ us, t = .lst us ∧ ts.length + us.length ≤ sizeLine ∧ N (τ.set i (some (.lst (ts ++ us)))) h1 := by
  unfold sExt
  split
  · rename_i ts e
    simp only [d_w_fl, e]
    have e2 : ∀ (t : T) (h1 : IH), OkSD (match t with | .lst us => if ts.length + us.length ≤ sizeLine then .nx (τ.set i (some (.lst (ts ++ us)))) h1 else .no | _ => .no) N M = ∃ us, t = .lst us ∧ ts.length + us.length ≤ sizeLine ∧ N (τ.set i (some (.lst (ts ++ us)))) h1 := fun t h1 => by
      cases t with
      | lst us => simp only [d_v_iteN, d_v_nx]; exact propext ⟨fun z => ⟨us, rfl, z⟩, fun ⟨_, z, p⟩ => by cases z; exact p⟩
      | _ => exact propext ⟨fun z => z.elim, fun ⟨_, z, p⟩ => nomatch z⟩
    refine propext ⟨fun z => ⟨ts, rfl, z.imp fun t h1 q => (e2 t h1).mp q⟩, fun ⟨_, z, p⟩ => by cases z; exact p.imp fun t h1 q => (e2 t h1).mpr q⟩
  · rename_i e
    exact propext ⟨fun z => z.elim, fun ⟨ts, z, p⟩ => (e ts z).elim⟩
theorem d_v_Put {fi fv : SE} : OkSD (sPut i fi fv τ h) N M = OkD (fv τ h) fun t h1 => ∃ ts, τ[i]? = some (some (.lst ts)) ∧ OkD (fi τ h1) fun k h2 => ∃ k', k = .int k' ∧ ∃ j, ixN ts.length k' = some j ∧ N (τ.set i (some (.lst (ts.set j t)))) h2 := by
  unfold sPut
  rw [d_w_fl]; congr 1; funext t h1
  split
  · rename_i ts e
    simp only [d_w_fl]
    have e2 : ∀ (k : T) (h2 : IH), OkSD (match k with | .int k => (match ixN ts.length k with | some j => .nx (τ.set i (some (.lst (ts.set j t)))) h2 | none => .no) | _ => .no) N M = ∃ k', k = .int k' ∧ ∃ j, ixN ts.length k' = some j ∧ N (τ.set i (some (.lst (ts.set j t)))) h2 := fun k h2 => by
      cases k with
      | int k =>
        have e3 : OkSD (match ixN ts.length k with | some j => .nx (τ.set i (some (.lst (ts.set j t)))) h2 | none => .no) N M = ∃ j, ixN ts.length k = some j ∧ N (τ.set i (some (.lst (ts.set j t)))) h2 := by
          cases ixN ts.length k with
          | none => exact propext ⟨fun z => z.elim, fun ⟨_, z, p⟩ => nomatch z⟩
          | some j => exact propext ⟨fun z => ⟨j, rfl, z⟩, fun ⟨_, z, p⟩ => by cases z; exact p⟩
        exact e3.trans (propext ⟨fun z => ⟨k, rfl, z⟩, fun ⟨_, z, p⟩ => by cases z; exact p⟩)
      | _ => exact propext ⟨fun z => z.elim, fun ⟨_, z, p⟩ => nomatch z⟩
    refine propext ⟨fun z => ⟨ts, e, z.imp fun t h1 q => (e2 t h1).mp q⟩, fun ⟨us, z, p⟩ => ?_⟩
    have z' := e.symm.trans z
    cases z'
    exact p.imp fun t h1 q => (e2 t h1).mpr q
  · rename_i e
    exact propext ⟨fun z => z.elim, fun ⟨ts, z, p⟩ => (e ts z).elim⟩
theorem d_v_PutB {fb fi fv : SE} : OkSD (sPutB fb fi fv τ h) N M = OkD (fv τ h) fun t h1 => OkD (fb τ h1) fun x h2 => OkD (fi τ h2) fun k h3 => ∃ n k' ts j, x = .box n ∧ k = .int k' ∧ h3[n]? = some (.lst ts) ∧ ixN ts.length k' = some j ∧ N τ (h3.set n (.lst (ts.set j t))) := by
  unfold sPutB
  simp only [d_w_fl]
  congr 1; funext t h1; congr 1; funext x h2; congr 1; funext k h3
  split
  · rename_i n k'
    split
    · rename_i ts e
      cases e2 : ixN ts.length k' with
      | none => exact propext ⟨fun z => z.elim, fun ⟨n2, k2, ts2, j, z1, z2, z3, z4, p⟩ => by cases z1; cases z2; have z := e.symm.trans z3; cases z; rw [e2] at z4; cases z4⟩
      | some j => exact propext ⟨fun z => ⟨n, k', ts, j, rfl, rfl, e, e2, z⟩, fun ⟨n2, k2, ts2, j, z1, z2, z3, z4, p⟩ => by cases z1; cases z2; have z := e.symm.trans z3; cases z; rw [e2] at z4; cases z4; exact p⟩
    · rename_i e
      exact propext ⟨fun z => z.elim, fun ⟨n2, k2, ts2, j, z1, z2, z3, z4, p⟩ => by cases z1; cases z2; exact (e ts2 z3).elim⟩
  · rename_i e
    exact propext ⟨fun z => z.elim, fun ⟨n2, k2, ts2, j, z1, z2, z3, z4, p⟩ => (e n2 k2 z1 z2).elim⟩
theorem ex_eqT {p : T → Prop} {a : T} : (∃ t, (some (some a) : Option (Option T)) = some (some t) ∧ p t) = p a := propext ⟨fun ⟨z, e, k⟩ => by cases e; exact k, fun z => ⟨a, rfl, z⟩⟩
theorem ex_eqL {p : List T → Prop} {a : List T} : (∃ t, (some (some (T.lst a)) : Option (Option T)) = some (some (.lst t)) ∧ p t) = p a := propext ⟨fun ⟨z, e, k⟩ => by cases e; exact k, fun z => ⟨a, rfl, z⟩⟩
theorem ex_lst {p : List T → Prop} {a : List T} : (∃ t, T.lst a = .lst t ∧ p t) = p a := propext ⟨fun ⟨z, e, k⟩ => by cases e; exact k, fun z => ⟨a, rfl, z⟩⟩
theorem ex_bl {p : Bool → Prop} {a : Bool} : (∃ t, T.bl a = .bl t ∧ p t) = p a := propext ⟨fun ⟨z, e, k⟩ => by cases e; exact k, fun z => ⟨a, rfl, z⟩⟩
theorem ex_str {p : Str → Prop} {a : Str} : (∃ t, T.str a = .str t ∧ p t) = p a := propext ⟨fun ⟨z, e, k⟩ => by cases e; exact k, fun z => ⟨a, rfl, z⟩⟩
theorem ex_int {p : Int → Prop} {a : Int} : (∃ t, T.int a = .int t ∧ p t) = p a := propext ⟨fun ⟨z, e, k⟩ => by cases e; exact k, fun z => ⟨a, rfl, z⟩⟩
theorem if_dec {c : Prop} [Decidable c] {p q : Prop} : (if decide c = true then p else q) = if c then p else q := by
  by_cases z : c
  · rw [if_pos z, if_pos (decide_eq_true z)]
  · rw [if_neg z, if_neg (by rw [decide_eq_true_eq]; exact z)]
/-! the items walked -/
theorem d_w_iMap {gg : T → IH → Option (List T)} : OkD (iMap f gg τ h) PL = OkD (f τ h) fun x h1 => ∃ ts, gg x h1 = some ts ∧ PL ts h1 := by
  unfold iMap; simp only [d_w_bind, d_w_of]
theorem d_w_iR1 : OkD (iR1 f τ h) PL = OkD (f τ h) fun x h1 => ∃ j, x = .int j ∧ okR j = true ∧ PL (rngL 0 j.toNat 1) h1 := by
  unfold iR1; rw [d_w_bind]; congr 1; funext x h1
  cases x with
  | int b => simp only [d_w_iteN, d_w_ok]; exact propext ⟨fun z => ⟨b, rfl, z⟩, fun ⟨_, z, p⟩ => by cases z; exact p⟩
  | _ => exact propext ⟨fun z => z.elim, fun ⟨_, z, p⟩ => nomatch z⟩
theorem d_w_iR2 : OkD (iR2 f g τ h) PL = OkD (f τ h) fun x h1 => OkD (g τ h1) fun y h2 => ∃ i j, x = .int i ∧ y = .int j ∧ (okR i && okR j) = true ∧ PL (rngL i (j - i).toNat 1) h2 := by
  unfold iR2; simp only [d_w_bind]; congr 1; funext x h1; congr 1; funext y h2
  split
  · rename_i i j; simp only [d_w_iteN, d_w_ok]; exact propext ⟨fun z => ⟨i, j, rfl, rfl, z⟩, fun ⟨_, _, z, z', p⟩ => by cases z; cases z'; exact p⟩
  · rename_i e; exact propext ⟨fun z => z.elim, fun ⟨i, j, z, z', p⟩ => (e i j z z').elim⟩
theorem d_w_iR3 : OkD (iR3 f g c τ h) PL = OkD (f τ h) fun x h1 => OkD (g τ h1) fun y h2 => OkD (c τ h2) fun z h3 => ∃ i j, x = .int i ∧ y = .int j ∧ z = .int (-1) ∧ (okR i && okR j) = true ∧ PL (rngL i (i - j).toNat (-1)) h3 := by
  unfold iR3; simp only [d_w_bind]; congr 1; funext x h1; congr 1; funext y h2; congr 1; funext z h3
  split
  · rename_i i j; rw [d_w_iteN, d_w_ok]; exact propext ⟨fun z => ⟨i, j, rfl, rfl, rfl, z⟩, fun ⟨_, _, z, z', _, p⟩ => by cases z; cases z'; exact p⟩
  · rename_i e; exact propext ⟨fun z => z.elim, fun ⟨i, j, z, z', z2, p⟩ => (e i j z z' z2).elim⟩
theorem d_w_iZ {g1 g2 : T → IH → Option (List T)} : OkD (iZ g1 g2 f g τ h) PL = OkD (f τ h) fun x h1 => OkD (g τ h1) fun y h2 => ∃ xs, g1 x h2 = some xs ∧ ∃ ys, g2 y h2 = some ys ∧ PL (zipT xs ys) h2 := by
  unfold iZ; simp only [d_w_bind]; congr 1; funext x h1; congr 1; funext y h2
  cases g1 x h2 with
  | none => exact propext ⟨fun z => z.elim, fun ⟨_, z, p⟩ => nomatch z⟩
  | some xs => cases g2 y h2 with
    | none => exact propext ⟨fun z => z.elim, fun ⟨_, _, _, z, p⟩ => nomatch z⟩
    | some ys => exact propext ⟨fun z => ⟨xs, rfl, ys, rfl, z⟩, fun ⟨_, z, _, z', p⟩ => by cases z; cases z'; exact p⟩
theorem d_w_Lc {own : List Nat} : OkD (eLc it own pt sa f τ h) P1 = OkD (it τ h) fun ts h1 => OkD (lcGo pt sa f (wipeT τ own) ts h1) fun ys h2 => ts.length ≤ sizeLine ∧ P1 (.lst ys) h2 := by
  unfold eLc; simp only [d_w_bind, d_w_iteN, d_w_ok]
theorem d_w_nx : OkD (nx r) P = OkD r P := by cases r <;> rfl
theorem d_w_lcN {τw : Ev} : OkD (lcGo pt sa f τw [] h) PL = PL [] h := rfl
theorem d_w_lcC {τw : Ev} {ts : List T} : OkD (lcGo pt sa f τw (t :: ts) h) PL = ∃ τ1, bindP pt t τw = some τ1 ∧ OkD (sa τ1 h) fun b h1 => if b = true then OkD (f τ1 h1) fun y h2 => OkD (lcGo pt sa f τw ts h2) fun ys h3 => PL (y :: ys) h3 else OkD (lcGo pt sa f τw ts h1) PL := by
  show OkD (match bindP pt t τw with | none => .no | some τ1 => (nx (sa τ1 h)).bind fun b h1 => if b = true then (nx (f τ1 h1)).bind fun y h2 => (lcGo pt sa f τw ts h2).bind fun ys h3 => .ok (y :: ys) h3 else lcGo pt sa f τw ts h1) PL = _
  cases bindP pt t τw with
  | none => exact propext ⟨fun z => z.elim, fun ⟨_, z, _⟩ => nomatch z⟩
  | some a =>
    simp only [d_w_bind, d_w_nx, d_w_ite, d_w_ok]
    exact propext ⟨fun z => ⟨a, rfl, z⟩, fun ⟨_, z, p⟩ => by cases z; exact p⟩
end

/-! ### the same, kept from being reckoned out by itself -/
structure Ok {α : Type} (r : Rs α) (P : α → IH → Prop) : Prop where
  out : OkD r P
structure OkS (r : Fl) (N : Ev → IH → Prop) (Q : T → IH → Prop) : Prop where
  out : OkSD r N Q
theorem ok_eq {α : Type} (r : Rs α) (P : α → IH → Prop) : Ok r P = OkD r P := propext ⟨fun h => h.out, fun h => ⟨h⟩⟩
theorem okS_eq (r : Fl) (N : Ev → IH → Prop) (Q : T → IH → Prop) : OkS r N Q = OkSD r N Q := propext ⟨fun h => h.out, fun h => ⟨h⟩⟩
section
variable {α β : Type} {r : Rs α} {P P' : α → IH → Prop} {a : α} {h : IH} {τ : Ev} {k : α → IH → Rs β} {Q : β → IH → Prop} {N N' : Ev → IH → Prop} {M M' : T → IH → Prop}
theorem Ok.imp (o : Ok r P) (i : ∀ a h, P a h → P' a h) : Ok r P' := ⟨o.out.imp i⟩
theorem OkS.imp {r : Fl} (o : OkS r N M) (i : ∀ a h, N a h → N' a h) (j : ∀ a h, M a h → M' a h) : OkS r N' M' := ⟨o.out.imp i j⟩
theorem Ok.ex (o : Ok r P) : ∃ a h, r = .ok a h ∧ P a h := o.out.ex
theorem Ok.eq (o : Ok r fun b h' => b = a ∧ h' = h) : r = .ok a h := o.out.eq
theorem Ok.of_eq (e : r = .ok a h) (p : P a h) : Ok r P := ⟨OkD.of_eq e p⟩
theorem w_ok : Ok (.ok a h) P = P a h := by
  simp only [ok_eq, okS_eq]
  exact d_w_ok
theorem w_no : Ok (Rs.no : Rs α) P = False := by
  simp only [ok_eq, okS_eq]
  exact d_w_no
theorem w_bind : Ok (r.bind k) Q = Ok r fun a h => Ok (k a h) Q := by
  simp only [ok_eq, okS_eq]
  exact d_w_bind
theorem w_of {o : Option α} : Ok (Rs.of o h) P = ∃ a, o = some a ∧ P a h := by
  simp only [ok_eq, okS_eq]
  exact d_w_of
theorem w_fl {k : α → IH → Fl} : OkS (r.fl τ k) N M = Ok r fun a h => OkS (k a h) N M := by
  simp only [ok_eq, okS_eq]
  exact d_w_fl
theorem w_ite {c : Prop} [Decidable c] {x y : Rs α} : Ok (if c then x else y) P = if c then Ok x P else Ok y P := by
  simp only [ok_eq, okS_eq]
  exact d_w_ite
theorem w_iteN {c : Prop} [Decidable c] {x : Rs α} : Ok (if c then x else .no) P = (c ∧ Ok x P) := by
  simp only [ok_eq, okS_eq]
  exact d_w_iteN
theorem v_iteN {c : Prop} [Decidable c] {x : Fl} : OkS (if c then x else .no) N M = (c ∧ OkS x N M) := by
  simp only [ok_eq, okS_eq]
  exact d_v_iteN
variable {P1 : T → IH → Prop} {PL : List T → IH → Prop} {PB : Bool → IH → Prop} {t : T} {i : Nat} {f g c : SE} {fs : SA} {sa sb : SB} {s1 s2 : SS} {o1 o2 : SO} {pt : Pat} {it : SI}
theorem w_C : Ok (eC t τ h) P1 = P1 t h := by
  simp only [ok_eq, okS_eq]
  exact d_w_C
theorem w_V : Ok (eV i τ h) P1 = ∃ t, τ[i]? = some (some t) ∧ P1 t h := by
  simp only [ok_eq, okS_eq]
  exact d_w_V
theorem w_Bin {o : G2} : Ok (eBin o f g τ h) P1 = Ok (f τ h) fun x h1 => Ok (g τ h1) fun y h2 => ∃ z, o x y h2 = some z ∧ P1 z h2 := by
  simp only [ok_eq, okS_eq]
  exact d_w_Bin
theorem w_Un {o : G1} : Ok (eUn o f τ h) P1 = Ok (f τ h) fun x h1 => ∃ z, o x h1 = some z ∧ P1 z h1 := by
  simp only [ok_eq, okS_eq]
  exact d_w_Un
theorem w_Nil : Ok (aNil τ h) PL = PL [] h := by
  simp only [ok_eq, okS_eq]
  exact d_w_Nil
theorem w_Cons : Ok (aCons f fs τ h) PL = Ok (f τ h) fun t h1 => Ok (fs τ h1) fun ts h2 => PL (t :: ts) h2 := by
  simp only [ok_eq, okS_eq]
  exact d_w_Cons
theorem w_Tup : Ok (eTup fs τ h) P1 = Ok (fs τ h) fun ts h1 => ts.length ≤ sizeLine ∧ P1 (.tup ts) h1 := by
  simp only [ok_eq, okS_eq]
  exact d_w_Tup
theorem w_Lst : Ok (eLst fs τ h) P1 = Ok (fs τ h) fun ts h1 => ts.length ≤ sizeLine ∧ P1 (.lst ts) h1 := by
  simp only [ok_eq, okS_eq]
  exact d_w_Lst
theorem w_Box : Ok (eBox fs τ h) P1 = Ok (fs τ h) fun ts h1 => ts.length ≤ sizeLine ∧ P1 (.box h1.length) (h1 ++ [.lst ts]) := by
  simp only [ok_eq, okS_eq]
  exact d_w_Box
theorem w_Of : Ok (sOf f τ h) PB = Ok (f τ h) fun x h1 => ∃ b, x = .bl b ∧ PB b h1 := by
  simp only [ok_eq, okS_eq]
  exact d_w_Of
theorem w_And : Ok (sAnd sa sb τ h) PB = Ok (sa τ h) fun b h1 => if b = true then Ok (sb τ h1) PB else PB false h1 := by
  simp only [ok_eq, okS_eq]
  exact d_w_And
theorem w_Or : Ok (sOr sa sb τ h) PB = Ok (sa τ h) fun b h1 => if b = true then PB true h1 else Ok (sb τ h1) PB := by
  simp only [ok_eq, okS_eq]
  exact d_w_Or
theorem w_Not : Ok (sNot sa τ h) PB = Ok (sa τ h) fun b h1 => PB (!b) h1 := by
  simp only [ok_eq, okS_eq]
  exact d_w_Not
theorem w_True : Ok (sTrue τ h) PB = PB true h := by
  simp only [ok_eq, okS_eq]
  exact d_w_True
theorem w_eAnd : Ok (eAnd f g τ h) P1 = Ok (f τ h) fun x h1 => ∃ b, x = .bl b ∧ if b = true then Ok (g τ h1) P1 else P1 (.bl false) h1 := by
  simp only [ok_eq, okS_eq]
  exact d_w_eAnd
theorem w_eOr : Ok (eOr f g τ h) P1 = Ok (f τ h) fun x h1 => ∃ b, x = .bl b ∧ if b = true then P1 (.bl true) h1 else Ok (g τ h1) P1 := by
  simp only [ok_eq, okS_eq]
  exact d_w_eOr
theorem w_eNot : Ok (eNot f τ h) P1 = Ok (f τ h) fun x h1 => ∃ b, x = .bl b ∧ P1 (.bl (!b)) h1 := by
  simp only [ok_eq, okS_eq]
  exact d_w_eNot
theorem w_If : Ok (eIf sa f g τ h) P1 = Ok (sa τ h) fun b h1 => if b = true then Ok (f τ h1) P1 else Ok (g τ h1) P1 := by
  simp only [ok_eq, okS_eq]
  exact d_w_If
theorem w_Chain {o1 o2 : G2} : Ok (eChain o1 o2 f g c τ h) P1 = Ok (f τ h) fun x h1 => Ok (g τ h1) fun y h2 => ∃ z, o1 x y h2 = some z ∧ ∃ b, z = .bl b ∧ if b = true then Ok (c τ h2) fun w h4 => ∃ z, o2 y w h4 = some z ∧ P1 z h4 else P1 (.bl false) h2 := by
  simp only [ok_eq, okS_eq]
  exact d_w_Chain
theorem w_oN {PO : Option Int → IH → Prop} : Ok (oNone τ h) PO = PO none h := by
  simp only [ok_eq, okS_eq]
  exact d_w_oN
theorem w_oS {PO : Option Int → IH → Prop} : Ok (oSome f τ h) PO = Ok (f τ h) fun x h1 => ∃ i, x = .int i ∧ PO (some i) h1 := by
  simp only [ok_eq, okS_eq]
  exact d_w_oS
theorem w_Sl {o : G3} : Ok (eSl o f o1 o2 τ h) P1 = Ok (f τ h) fun x h1 => Ok (o1 τ h1) fun l h2 => Ok (o2 τ h2) fun u h3 => ∃ z, o x l u h3 = some z ∧ P1 z h3 := by
  simp only [ok_eq, okS_eq]
  exact d_w_Sl
theorem w_Call {F : SF} : Ok (eCall F fs τ h) P1 = Ok (fs τ h) fun ts h1 => Ok (F ts h1) P1 := by
  simp only [ok_eq, okS_eq]
  exact d_w_Call
theorem w_runF {n nl : Nat} {ts : List T} : Ok (runF n nl s1 ts h) P1 = (ts.length = n ∧ OkS (s1 (ts.map some ++ List.replicate (nl - n) none) h) (fun _ h' => P1 .non h') P1) := by
  simp only [ok_eq, okS_eq]
  exact d_w_runF
theorem w_runO {n nl : Nat} {ts : List T} : Ok (runO n nl s1 ts h) P1 = (ts.length = n ∧ OkS (s1 (ts.map some ++ List.replicate (nl - n) none) h) (fun _ h' => False) P1) := by
  simp only [ok_eq, okS_eq]
  exact d_w_runO
theorem v_nx : OkS (.nx τ h) N M = N τ h := by
  simp only [ok_eq, okS_eq]
  exact d_v_nx
theorem v_rt : OkS (.rt t h) N M = M t h := by
  simp only [ok_eq, okS_eq]
  exact d_v_rt
theorem v_Skip : OkS (sSkip τ h) N M = N τ h := by
  simp only [ok_eq, okS_eq]
  exact d_v_Skip
theorem v_Seq : OkS (sSeq s1 s2 τ h) N M = OkS (s1 τ h) (fun τ' h' => OkS (s2 τ' h') N M) M := by
  simp only [ok_eq, okS_eq]
  exact d_v_Seq
theorem v_If : OkS (sIf sa s1 s2 τ h) N M = Ok (sa τ h) fun b h1 => if b = true then OkS (s1 τ h1) N M else OkS (s2 τ h1) N M := by
  simp only [ok_eq, okS_eq]
  exact d_v_If
theorem v_Ret : OkS (sRet f τ h) N M = Ok (f τ h) M := by
  simp only [ok_eq, okS_eq]
  exact d_v_Ret
theorem v_Expr : OkS (sExpr f τ h) N M = Ok (f τ h) fun _ h1 => N τ h1 := by
  simp only [ok_eq, okS_eq]
  exact d_v_Expr
theorem v_Set : OkS (sSet i f τ h) N M = Ok (f τ h) fun t h1 => N (τ.set i (some t)) h1 := by
  simp only [ok_eq, okS_eq]
  exact d_v_Set
theorem v_Tp : OkS (sTp pt f τ h) N M = Ok (f τ h) fun t h1 => ∃ τ', bindP pt t τ = some τ' ∧ N τ' h1 := by
  simp only [ok_eq, okS_eq]
  exact d_v_Tp
theorem v_Par {is : List Nat} : OkS (sPar is fs τ h) N M = Ok (fs τ h) fun ts h1 => ∃ τ', setAll is ts τ = some τ' ∧ N τ' h1 := by
  simp only [ok_eq, okS_eq]
  exact d_v_Par
theorem v_For : OkS (sFor it pt s1 τ h) N M = Ok (it τ h) fun ts h1 => OkS (forGo pt s1 ts τ h1) N M := by
  simp only [ok_eq, okS_eq]
  exact d_v_For
theorem v_forN : OkS (forGo pt s1 [] τ h) N M = N τ h := by
  simp only [ok_eq, okS_eq]
  exact d_v_forN
theorem v_forC {ts : List T} : OkS (forGo pt s1 (t :: ts) τ h) N M = ∃ τ1, bindP pt t τ = some τ1 ∧ OkS (s1 τ1 h) (fun τ2 h2 => OkS (forGo pt s1 ts τ2 h2) N M) M := by
  simp only [ok_eq, okS_eq]
  exact d_v_forC
theorem v_App : OkS (sApp i f τ h) N M = ∃ ts, τ[i]? = some (some (.lst ts)) ∧ Ok (f τ h) fun t h1 => ts.length < sizeLine ∧ N (τ.set i (some (.lst (ts ++ [t])))) h1 := by
  simp only [ok_eq, okS_eq]
  exact d_v_App
theorem v_Mut {w : List T → List T} : OkS (sMut i w τ h) N M = ∃ ts, τ[i]? = some (some (.lst ts)) ∧ N (τ.set i (some (.lst (w ts)))) h := by
  simp only [ok_eq, okS_eq]
  exact d_v_Mut
theorem v_Ext : OkS (sExt i f τ h) N M = ∃ ts, τ[i]? = some (some (.lst ts)) ∧ Ok (f τ h) fun t h1 => ∃ us, t = .lst us ∧ ts.length + us.length ≤ sizeLine ∧ N (τ.set i (some (.lst (ts ++ us)))) h1 := by
  simp only [ok_eq, okS_eq]
  exact d_v_Ext
theorem v_Put {fi fv : SE} : OkS (sPut i fi fv τ h) N M = Ok (fv τ h) fun t h1 => ∃ ts, τ[i]? = some (some (.lst ts)) ∧ Ok (fi τ h1) fun k h2 => ∃ k', k = .int k' ∧ ∃ j, ixN ts.length k' = some j ∧ N (τ.set i (some (.lst (ts.set j t)))) h2 := by
  simp only [ok_eq, okS_eq]
  exact d_v_Put
theorem v_PutB {fb fi fv : SE} : OkS (sPutB fb fi fv τ h) N M = Ok (fv τ h) fun t h1 => Ok (fb τ h1) fun x h2 => Ok (fi τ h2) fun k h3 => ∃ n k' ts j, x = .box n ∧ k = .int k' ∧ h3[n]? = some (.lst ts) ∧ ixN ts.length k' = some j ∧ N τ (h3.set n (.lst (ts.set j t))) := by
  simp only [ok_eq, okS_eq]
  exact d_v_PutB
theorem w_iMap {gg : T → IH → Option (List T)} : Ok (iMap f gg τ h) PL = Ok (f τ h) fun x h1 => ∃ ts, gg x h1 = some ts ∧ PL ts h1 := by
  simp only [ok_eq, okS_eq]
  exact d_w_iMap
theorem w_iR1 : Ok (iR1 f τ h) PL = Ok (f τ h) fun x h1 => ∃ j, x = .int j ∧ okR j = true ∧ PL (rngL 0 j.toNat 1) h1 := by
  simp only [ok_eq, okS_eq]
  exact d_w_iR1
theorem w_iR2 : Ok (iR2 f g τ h) PL = Ok (f τ h) fun x h1 => Ok (g τ h1) fun y h2 => ∃ i j, x = .int i ∧ y = .int j ∧ (okR i && okR j) = true ∧ PL (rngL i (j - i).toNat 1) h2 := by
  simp only [ok_eq, okS_eq]
  exact d_w_iR2
theorem w_iR3 : Ok (iR3 f g c τ h) PL = Ok (f τ h) fun x h1 => Ok (g τ h1) fun y h2 => Ok (c τ h2) fun z h3 => ∃ i j, x = .int i ∧ y = .int j ∧ z = .int (-1) ∧ (okR i && okR j) = true ∧ PL (rngL i (i - j).toNat (-1)) h3 := by
  simp only [ok_eq, okS_eq]
  exact d_w_iR3
theorem w_iZ {g1 g2 : T → IH → Option (List T)} : Ok (iZ g1 g2 f g τ h) PL = Ok (f τ h) fun x h1 => Ok (g τ h1) fun y h2 => ∃ xs, g1 x h2 = some xs ∧ ∃ ys, g2 y h2 = some ys ∧ PL (zipT xs ys) h2 := by
  simp only [ok_eq, okS_eq]
  exact d_w_iZ
theorem w_Lc {own : List Nat} : Ok (eLc it own pt sa f τ h) P1 = Ok (it τ h) fun ts h1 => Ok (lcGo pt sa f (wipeT τ own) ts h1) fun ys h2 => ts.length ≤ sizeLine ∧ P1 (.lst ys) h2 := by
  simp only [ok_eq, okS_eq]
  exact d_w_Lc
theorem w_nx : Ok (nx r) P = Ok r P := by
  simp only [ok_eq, okS_eq]
  exact d_w_nx
theorem w_lcN {τw : Ev} : Ok (lcGo pt sa f τw [] h) PL = PL [] h := by
  simp only [ok_eq, okS_eq]
  exact d_w_lcN
theorem w_lcC {τw : Ev} {ts : List T} : Ok (lcGo pt sa f τw (t :: ts) h) PL = ∃ τ1, bindP pt t τw = some τ1 ∧ Ok (sa τ1 h) fun b h1 => if b = true then Ok (f τ1 h1) fun y h2 => Ok (lcGo pt sa f τw ts h2) fun ys h3 => PL (y :: ys) h3 else Ok (lcGo pt sa f τw ts h1) PL := by
  simp only [ok_eq, okS_eq]
  exact d_w_lcC
end
theorem w_CallB {P1 : T → IH → Prop} {F : SF} {fs : SA} {τ : Ev} {h : IH} : Ok (eCallB F fs τ h) P1 = Ok (fs τ h) fun ts h1 => Ok (F ts h1) fun t h2 => (scal t = true ∧ flatH h2 = true) ∧ P1 t h2 := by
  unfold eCallB
  rw [w_bind]
  congr 1; funext ts h1
  cases F ts h1 with
  | ok t h2 =>
    show Ok (if (scal t && flatH h2) = true then .ok t h2 else .no) P1 = _
    rw [w_iteN, w_ok, w_ok, Bool.and_eq_true]
  | exc x h2 => exact propext ⟨fun z => z.out.elim, fun z => z.out.elim⟩
  | no => exact propext ⟨fun z => z.out.elim, fun z => z.out.elim⟩
theorem w_eJoin {P1 : T → IH → Prop} {f g : SE} {τ : Ev} {h : IH} : Ok (eJoin f g τ h) P1 = Ok (f τ h) fun x h1 => ∃ z, x = .str z ∧ Ok (g τ h1) fun y h2 => ∃ w, gJoin (.str z) y h2 = some w ∧ P1 w h2 := by
  unfold eJoin
  rw [w_bind]
  congr 1; funext x h1
  cases x with
  | str z => simp only [w_bind, w_of]; exact propext ⟨fun q => ⟨z, rfl, q⟩, fun ⟨_, e, q⟩ => by cases e; exact q⟩
  | _ => exact propext ⟨fun z => z.out.elim, fun ⟨_, e, _⟩ => nomatch e⟩
theorem w_Rev {P1 : T → IH → Prop} {g : GR} {f : SE} {lo : SO} {τ : Ev} {h : IH} : Ok (eRev g f lo τ h) P1 = Ok (f τ h) fun x h1 => Ok (lo τ h1) fun l h2 => ∃ z, g x l h2 = some z ∧ P1 z h2 := by
  unfold eRev; simp only [w_bind, w_of]
/-! ### walks by a promise -/
inductive All2 {α β : Type} (S : α → β → Prop) : List α → List β → Prop
  | nil : All2 S [] []
  | cons {a b l m} : S a b → All2 S l m → All2 S (a :: l) (b :: m)
theorem All2.len {α β : Type} {S : α → β → Prop} {l : List α} {m : List β} (h : All2 S l m) : l.length = m.length := by
  induction h with
  | nil => rfl
  | cons _ _ ih => simp [ih]
theorem All2.imp {α β : Type} {S S' : α → β → Prop} {l : List α} {m : List β} (h : All2 S l m) (i : ∀ a b, S a b → S' a b) : All2 S' l m := by
  induction h with
  | nil => exact .nil
  | cons q _ ih => exact .cons (i _ _ q) ih
theorem All2.right {α β : Type} {S : α → β → Prop} {l : List α} {m : List β} (h : All2 S l m) {P : β → Prop} (i : ∀ a b, S a b → P b) : ∀ b ∈ m, P b := by
  induction h with
  | nil => exact fun b m => absurd m (by simp)
  | cons q _ ih => exact fun b m => (List.mem_cons.mp m).elim (fun e => e ▸ i _ _ q) (ih b)
theorem All2.self {α : Type} {S : α → α → Prop} {l : List α} (h : ∀ a ∈ l, S a a) : All2 S l l := by
  induction l with
  | nil => exact .nil
  | cons a l ih => exact .cons (h a List.mem_cons_self) (ih fun b m => h b (List.mem_cons_of_mem _ m))
section
variable {pt : Pat} {body : SS} {sa : SB} {f : SE} {N : Ev → IH → Prop} {M : T → IH → Prop} {h : IH} {τ : Ev}
/-- an invariant of a for -/
theorem for_inv (I : List T → Ev → IH → Prop) {ts : List T} (h0 : I ts τ h)
    (step : ∀ t us τ h, I (t :: us) τ h → ∃ τ1, bindP pt t τ = some τ1 ∧ OkS (body τ1 h) (fun τ2 h2 => I us τ2 h2) M) (fin : ∀ τ h, I [] τ h → N τ h) : OkS (forGo pt body ts τ h) N M := by
  induction ts generalizing τ h with
  | nil => rw [v_forN]; exact fin τ h h0
  | cons t us ih =>
    rw [v_forC]
    obtain ⟨τ1, e, o⟩ := step t us τ h h0
    exact ⟨τ1, e, o.imp (fun τ2 h2 q => ih q) fun _ _ q => q⟩
/-- an invariant that every turn keeps -/
theorem for_keep (I : Ev → IH → Prop) {ts : List T} (h0 : I τ h)
    (step : ∀ t ∈ ts, ∀ τ h, I τ h → ∃ τ1, bindP pt t τ = some τ1 ∧ OkS (body τ1 h) I M) (fin : ∀ τ h, I τ h → N τ h) : OkS (forGo pt body ts τ h) N M := by
  refine for_inv (fun us τ h => (∀ t ∈ us, t ∈ ts) ∧ I τ h) ⟨fun _ m => m, h0⟩ (fun t us τ h ⟨m, i⟩ => ?_) fun τ h q => fin τ h q.2
  obtain ⟨τ1, e, o⟩ := step t (m t List.mem_cons_self) τ h i
  exact ⟨τ1, e, o.imp (fun τ2 h2 q => ⟨fun t' m' => m t' (List.mem_cons_of_mem _ m'), q⟩) fun _ _ q => q⟩
theorem range_forP (I : Nat → Ev → IH → Prop) {n : Nat} {lo c : Int} (h0 : I 0 τ h)
    (step : ∀ k τ h, k < n → I k τ h → ∃ τ1, bindP pt (.int (lo + (k : Int) * c)) τ = some τ1 ∧ OkS (body τ1 h) (fun τ2 h2 => I (k + 1) τ2 h2) M) (fin : ∀ τ h, I n τ h → N τ h) : OkS (forGo pt body (rngL lo n c) τ h) N M := by
  refine for_inv (fun us τ h => ∃ k, k ≤ n ∧ us = (rngL lo n c).drop k ∧ I k τ h) ⟨0, Nat.zero_le _, by simp, h0⟩ (fun t us τ h ⟨k, hk, e, i⟩ => ?_) fun τ h ⟨k, hk, e, i⟩ => ?_
  · have hl : (rngL lo n c).length = n := by simp [rngL]
    have hkn : k < n := by
      rcases Nat.lt_or_ge k n with q | q
      · exact q
      · rw [List.drop_eq_nil_of_le (by rw [hl]; exact q)] at e; cases e
    rw [List.drop_eq_getElem_cons (by rw [hl]; exact hkn)] at e
    have et : t = .int (lo + (k : Int) * c) := by
      have := (List.cons.inj e).1
      rw [this]; simp [rngL]
    have eu := (List.cons.inj e).2
    obtain ⟨τ1, e1, o⟩ := step k τ h hkn i
    exact ⟨τ1, by rw [et]; exact e1, o.imp (fun τ2 h2 q => ⟨k + 1, hkn, eu, q⟩) fun _ _ q => q⟩
  · have hl : (rngL lo n c).length = n := by simp [rngL]
    have : k = n := by
      rcases Nat.lt_or_ge k n with q | q
      · rw [List.drop_eq_getElem_cons (by rw [hl]; exact q)] at e; cases e
      · exact Nat.le_antisymm hk q
    rw [← this] at fin; exact fin τ h i
/-- a comprehension by an invariant on the heap and a promise for each item -/
theorem lc_all {τw : Ev} (I : IH → Prop) (S : T → T → Prop) {ts : List T} (hI : I h)
    (step : ∀ t ∈ ts, ∀ h, I h → ∃ τ1, bindP pt t τw = some τ1 ∧ Ok (sTrue τ1 h) fun b h1 => b = true ∧ Ok (f τ1 h1) fun y h2 => S t y ∧ I h2) :
    Ok (lcGo pt sTrue f τw ts h) fun ys h' => All2 S ts ys ∧ I h' := by
  induction ts generalizing h with
  | nil => rw [w_lcN]; exact ⟨.nil, hI⟩
  | cons t us ih =>
    rw [w_lcC]
    obtain ⟨τ1, e, o⟩ := step t List.mem_cons_self h hI
    refine ⟨τ1, e, ?_⟩
    rw [w_True] at o ⊢
    rw [if_pos rfl]
    exact o.2.imp fun y h2 ⟨q, i⟩ => (ih i fun t' m => step t' (List.mem_cons_of_mem _ m)).imp fun ys h3 ⟨k, i'⟩ => ⟨.cons q k, i'⟩
/-- a comprehension of a pure function -/
theorem lc_map {τw : Ev} {ts ys : List T} (step : All2 (fun t y => ∃ τ1, bindP pt t τw = some τ1 ∧ f τ1 h = .ok y h) ts ys) : lcGo pt sTrue f τw ts h = .ok ys h := by
  induction step with
  | nil => rfl
  | cons q _ ih =>
    obtain ⟨τ1, e1, e2⟩ := q
    unfold lcGo
    rw [e1]
    show (nx (f τ1 h)).bind (fun y h2 => (lcGo pt sTrue f τw _ h2).bind fun ys h3 => .ok (y :: ys) h3) = _
    rw [e2]
    show (lcGo pt sTrue f τw _ h).bind (fun ys h3 => .ok (_ :: ys) h3) = _
    rw [ih]; rfl
/-- a comprehension with a test, pure -/
theorem lc_filter {α : Type} {τw : Ev} {xs : List α} {u : α → T} {c : α → Bool} {g : α → T} {τo : α → Ev} (h1 : ∀ x ∈ xs, bindP pt (u x) τw = some (τo x)) (h2 : ∀ x ∈ xs, sa (τo x) h = .ok (c x) h) (h3 : ∀ x ∈ xs, c x = true → f (τo x) h = .ok (g x) h) :
    lcGo pt sa f τw (xs.map u) h = .ok ((xs.filter c).map g) h := by
  induction xs with
  | nil => rfl
  | cons x xs ih =>
    have ih := ih (fun y m => h1 y (List.mem_cons_of_mem _ m)) (fun y m => h2 y (List.mem_cons_of_mem _ m)) (fun y m => h3 y (List.mem_cons_of_mem _ m))
    rw [List.map_cons]
    unfold lcGo
    rw [h1 x List.mem_cons_self]
    show (nx (sa (τo x) h)).bind (fun b h1 => if b = true then (nx (f (τo x) h1)).bind fun y h2 => (lcGo pt sa f τw (xs.map u) h2).bind fun ys h3 => .ok (y :: ys) h3 else lcGo pt sa f τw (xs.map u) h1) = _
    rw [h2 x List.mem_cons_self]
    show (if c x = true then (nx (f (τo x) h)).bind fun y h2 => (lcGo pt sa f τw (xs.map u) h2).bind fun ys h3 => .ok (y :: ys) h3 else lcGo pt sa f τw (xs.map u) h) = _
    cases e : c x with
    | true =>
      rw [if_pos rfl, h3 x List.mem_cons_self e, List.filter_cons_of_pos e]
      show (lcGo pt sa f τw (xs.map u) h).bind (fun ys h3 => .ok (g x :: ys) h3) = _
      rw [ih]; rfl
    | false => rw [if_neg (by decide), ih, List.filter_cons_of_neg (by rw [e]; decide)]
theorem lc_maps {α : Type} {τw : Ev} {xs : List α} {u : α → T} {g : α → T} {τo : α → Ev} (h1 : ∀ x ∈ xs, bindP pt (u x) τw = some (τo x)) (h3 : ∀ x ∈ xs, f (τo x) h = .ok (g x) h) :
    lcGo pt sTrue f τw (xs.map u) h = .ok (xs.map g) h := by
  have := lc_filter (pt := pt) (sa := sTrue) (f := f) (h := h) (τw := τw) (c := fun _ => true) h1 (fun _ _ => rfl) (fun x m _ => h3 x m)
  rw [this, List.filter_eq_self.mpr (fun _ _ => rfl)]
theorem wh_inv {c : SB} {body : SS} (I : Nat → Ev → IH → Prop) : ∀ (n : Nat) (τ : Ev) (h : IH), I n τ h →
    (∀ n τ h, I n τ h → Ok (c τ h) fun b h1 => if b = true then OkS (body τ h1) (fun τ2 h2 => ∃ m, m < n ∧ I m τ2 h2) M else N τ h1) → OkS (sWh c body τ h) N M := by
  intro n
  induction n using Nat.strongRecOn with
  | _ n ih =>
    intro τ h i step
    have q := step n τ h i
    obtain ⟨b, h1, e, p⟩ := q.ex
    cases b with
    | false => rw [sWh_done e, v_nx]; exact p
    | true =>
      rw [if_pos rfl] at p
      cases eb : body τ h1 with
      | nx τ2 h2 =>
        rw [eb, v_nx] at p
        obtain ⟨m, hm, im⟩ := p
        rw [sWh_turn e eb]
        exact ih m hm τ2 h2 im step
      | rt t h2 => rw [eb, v_rt] at p; rw [sWh_ret e eb, v_rt]; exact p
      | exc x τ2 h2 => rw [eb] at p; exact p.out.elim
      | no => rw [eb] at p; exact p.out.elim
end
end GB
namespace GB
open PySem PySem.Spec PyProof.Rows L2

/-! ### the operators at known trees -/
section
variable {h : IH} {a b : Int} {s : Str} {ts us : List T} {x y t u : T} {n : Nat}
theorem q_add : gAdd (.int a) (.int b) h = some (.int (a + b)) := rfl
theorem q_addT : gAdd (.tup ts) (.tup us) h = if ts.length + us.length ≤ sizeLine then some (.tup (ts ++ us)) else none := rfl
theorem q_sub : gSub (.int a) (.int b) h = some (.int (a - b)) := rfl
theorem q_mul : gMul (.int a) (.int b) h = if okMul a b = true then some (.int (a * b)) else none := rfl
theorem q_div : gDiv (.int a) (.int b) h = if okDiv a b = true then some (.int (a.fdiv b)) else none := rfl
theorem q_mod : gMod (.int a) (.int b) h = if okMod a b = true then some (.int (a.fmod b)) else none := rfl
theorem q_pow : gPow (.int a) (.int b) h = if okPow a b = true then some (.int (a ^ b.toNat)) else none := rfl
theorem q_shl : gShl (.int a) (.int b) h = if okPow a b = true then some (.int (a * 2 ^ b.toNat)) else none := rfl
theorem q_lt : gLt (.int a) (.int b) h = some (.bl (decide (a < b))) := rfl
theorem q_le : gLe (.int a) (.int b) h = some (.bl (decide (a ≤ b))) := rfl
theorem q_gt : gGt (.int a) (.int b) h = some (.bl (decide (b < a))) := rfl
theorem q_ge : gGe (.int a) (.int b) h = some (.bl (decide (b ≤ a))) := rfl
theorem q_max2 : gMax2 (.int a) (.int b) h = some (.int (if b > a then b else a)) := rfl
theorem q_min2 : gMin2 (.int a) (.int b) h = some (.int (if b < a then b else a)) := rfl
theorem q_neg : gNeg (.int a) h = some (.int (-a)) := rfl
theorem q_abs : gAbs (.int a) h = some (.int (a.natAbs : Int)) := rfl
theorem q_intI : gInt (.int a) h = some (.int a) := rfl
theorem q_intB {b : Bool} : gInt (.bl b) h = some (.int (if b then 1 else 0)) := rfl
theorem q_lenT : gLen (.tup ts) h = some (.int (ts.length : Int)) := rfl
theorem q_lenL : gLen (.lst ts) h = some (.int (ts.length : Int)) := rfl
theorem q_ixT : gIx (.tup ts) (.int a) h = atI ts a := rfl
theorem q_ixL : gIx (.lst ts) (.int a) h = atI ts a := rfl
theorem q_ixB (e : h[n]? = some (.lst ts)) : gIx (.box n) (.int a) h = atI ts a := by
  show (match h[n]? with | some (.lst ts) => some ts | _ => none).bind (fun ts => atI ts a) = _
  rw [e]; rfl
theorem q_tupL : gTuple (.lst ts) h = some (.tup ts) := rfl
theorem q_tupT : gTuple (.tup ts) h = some (.tup ts) := rfl
theorem q_lstL : gList (.lst ts) h = some (.lst ts) := rfl
theorem q_lstT : gList (.tup ts) h = some (.lst ts) := rfl
theorem q_isN {neg : Bool} : gIsN neg x .non h = some (.bl (neg ^^ isNon x)) := by cases x <;> rfl
theorem q_gL : gL (.lst ts) h = some ts := rfl
theorem q_gT : gT (.tup ts) h = some ts := rfl
theorem q_gEnL : gEnL (.lst ts) h = some (enumL ts) := rfl
theorem okMod_iff : (okMod a b = true) = (b ≠ 0) := by unfold okMod; exact decide_eq_true_eq
theorem okAll_iff : (okAll a b = true) = True := by simp [okAll]
theorem okPow_iff : (okPow a b = true) = (0 ≤ b ∧ b ≤ 1000000 ∧ a.natAbs < 2 ^ 64) := by unfold okPow; exact decide_eq_true_eq
theorem okR_iff : (okR a = true) = (-4611686018427387904 ≤ a ∧ a < 4611686018427387904) := by unfold okR; rw [decide_eq_true_eq]; rfl
/-- how many bits -/
theorem bits_le {k : Nat} (q : a.natAbs < 2 ^ k) : Builtin.Int.intBits a ≤ k := by
  unfold Builtin.Int.intBits
  split
  · exact Nat.zero_le _
  · rename_i z
    have hz : a.natAbs ≠ 0 := fun e => z (by rw [Int.natAbs_eq_zero.mp e]; rfl)
    have := (Nat.log2_lt hz).mpr q
    omega
theorem okMul_of {k l : Nat} (q : a.natAbs < 2 ^ k) (r : b.natAbs < 2 ^ l) (m : k + l ≤ 134217728) : okMul a b = true := by
  unfold okMul
  rw [decide_eq_true_eq]
  have := bits_le q
  have := bits_le r
  omega
theorem lt_of_abs {k : Nat} (h1 : a < 2 ^ k) (h2 : -(2 ^ k) < a) : a.natAbs < 2 ^ k := by
  have : ((2 ^ k : Nat) : Int) = 2 ^ k := by simp
  omega
/-- within 10 ^ 60 -/
theorem okMul_10 (h1 : a < 10 ^ 60) (h2 : -(10 ^ 60) < a) (h3 : b < 10 ^ 60) (h4 : -(10 ^ 60) < b) : okMul a b = true := by
  refine okMul_of (k := 200) (l := 200) (lt_of_abs ?_ ?_) (lt_of_abs ?_ ?_) (by decide)
  · exact Int.lt_of_lt_of_le h1 (by decide)
  · exact Int.lt_of_le_of_lt (by decide) h2
  · exact Int.lt_of_lt_of_le h3 (by decide)
  · exact Int.lt_of_le_of_lt (by decide) h4
theorem pow_le_250 : (10 : Int) ^ 70 ≤ 2 ^ 250 := by decide +kernel
theorem okDiv_10 (h1 : 0 < b) (h2 : b < 10 ^ 70) : okDiv a b = true := by
  unfold okDiv
  rw [decide_eq_true_eq]
  refine ⟨by omega, ?_⟩
  have : b.natAbs < 2 ^ 250 := lt_of_abs (Int.lt_of_lt_of_le h2 (pow_le_250)) (by omega)
  have := (Nat.log2_lt (by omega)).mpr this
  omega
theorem fmod_p (h : 0 ≤ b) : a.fmod b = a % b := Int.fmod_eq_emod_of_nonneg a h
theorem fdiv_p (h : 0 ≤ b) : a.fdiv b = a / b := Int.fdiv_eq_ediv_of_nonneg a h
theorem shaped_int : SeqAt.shaped (.int a) = true := by
  unfold SeqAt.shaped
  simp only [PyData.canLay0, PyData.depth, Bool.true_and]
  rfl
theorem q_eq : gEq (.int a) (.int b) h = some (.bl (decide (a = b))) := by
  show (if (SeqAt.shaped (.int a) && SeqAt.shaped (.int b)) = true then some (T.bl (false ^^ PyData.eqv (.int a) (.int b))) else none) = _
  rw [shaped_int, shaped_int, if_pos (by rfl : (true && true) = true)]
  simp only [PyData.eqv, Bool.false_xor]
  rfl
theorem q_ne : gNe (.int a) (.int b) h = some (.bl (!decide (a = b))) := by
  show (if (SeqAt.shaped (.int a) && SeqAt.shaped (.int b)) = true then some (T.bl (true ^^ PyData.eqv (.int a) (.int b))) else none) = _
  rw [shaped_int, shaped_int, if_pos (by rfl : (true && true) = true)]
  simp only [PyData.eqv, Bool.true_xor]
  rfl
end
/-! ### trees that == may hold against themselves -/
mutual
def shT : Nat → T → Bool
  | _, .non => true
  | _, .bl _ => true
  | _, .int _ => true
  | _, .str s => PyData.strOk s
  | 0, .tup _ => false
  | k + 1, .tup ts => shL k ts
  | 0, .lst _ => false
  | k + 1, .lst ts => shL k ts
  | _, .box _ => false
def shL : Nat → List T → Bool
  | _, [] => true
  | k, t :: ts => shT k t && shL k ts
end
mutual
theorem sh_py : ∀ (k : Nat) (t : T), shT k t = true → ∃ d, py0 t = some d ∧ d.canLay0 = true ∧ d.depth ≤ k
  | k, .non, e => ⟨_, rfl, by simp [PyData.canLay0], by simp [PyData.depth]⟩
  | k, .bl _, e => ⟨_, rfl, by simp [PyData.canLay0], by simp [PyData.depth]⟩
  | k, .int _, e => ⟨_, rfl, by simp [PyData.canLay0], by simp [PyData.depth]⟩
  | k, .str s, e => ⟨_, rfl, by simpa [PyData.canLay0, shT] using e, by simp [PyData.depth]⟩
  | 0, .tup _, e => by simp [shT] at e
  | k + 1, .tup ts, e => by
    obtain ⟨d, h1, h2, h3⟩ := shL_py k ts (by simpa [shT] using e)
    exact ⟨.tuple d, by simp [py0, h1], by simpa [PyData.canLay0] using h2, by simp only [PyData.depth]; omega⟩
  | 0, .lst _, e => by simp [shT] at e
  | k + 1, .lst ts, e => by
    obtain ⟨d, h1, h2, h3⟩ := shL_py k ts (by simpa [shT] using e)
    exact ⟨.list d, by simp [py0, h1], by simpa [PyData.canLay0] using h2, by simp only [PyData.depth]; omega⟩
  | k, .box _, e => by simp [shT] at e
theorem shL_py : ∀ (k : Nat) (ts : List T), shL k ts = true → ∃ d, pyL ts = some d ∧ PyData.canLayAll0 d = true ∧ PyData.depthAll d ≤ k
  | k, [], e => ⟨[], by simp [pyL], by simp [PyData.canLayAll0], by simp [PyData.depthAll]⟩
  | k, t :: ts, e => by
    simp only [shL, Bool.and_eq_true] at e
    obtain ⟨d, h1, h2, h3⟩ := sh_py k t e.1
    obtain ⟨ds, g1, g2, g3⟩ := shL_py k ts e.2
    exact ⟨d :: ds, by simp [pyL, h1, g1], by simp [PyData.canLayAll0, h2, g2], by simp only [PyData.depthAll]; omega⟩
end
section
variable {h : IH} {t : T} {k : Nat} {xs : List Int}
theorem sh_shaped (hk : k ≤ 64) (e : shT k t = true) : ∃ d, pyH h t = some d ∧ SeqAt.shaped d = true := by
  obtain ⟨d, h1, h2, h3⟩ := sh_py k t e
  refine ⟨d, ?_, by unfold SeqAt.shaped; rw [h2, decide_eq_true (by omega)]; rfl⟩
  cases t with
  | box n => cases k <;> simp [shT] at e
  | _ => exact h1
theorem q_eqR (hk : k ≤ 64) (e : shT k t = true) : gEq t t h = some (.bl true) := by
  obtain ⟨d, h1, h2⟩ := sh_shaped (h := h) hk e
  show (match pyH h t, pyH h t with | some d, some e => if (SeqAt.shaped d && SeqAt.shaped e) = true then some (T.bl (false ^^ PyData.eqv d e)) else none | _, _ => none) = _
  rw [h1]
  show (if (SeqAt.shaped d && SeqAt.shaped d) = true then some (T.bl (false ^^ PyData.eqv d d)) else none) = _
  rw [h2, if_pos (by rfl : (true && true) = true), SeqAt.eqv_refl d (SeqAt.canLay_of_shaped h2)]; rfl
theorem q_neR (hk : k ≤ 64) (e : shT k t = true) : gNe t t h = some (.bl false) := by
  obtain ⟨d, h1, h2⟩ := sh_shaped (h := h) hk e
  show (match pyH h t, pyH h t with | some d, some e => if (SeqAt.shaped d && SeqAt.shaped e) = true then some (T.bl (true ^^ PyData.eqv d e)) else none | _, _ => none) = _
  rw [h1]
  show (if (SeqAt.shaped d && SeqAt.shaped d) = true then some (T.bl (true ^^ PyData.eqv d d)) else none) = _
  rw [h2, if_pos (by rfl : (true && true) = true), SeqAt.eqv_refl d (SeqAt.canLay_of_shaped h2)]; rfl
theorem shL_map {α : Type} {f : α → T} : ∀ {l : List α}, (∀ x ∈ l, shT k (f x) = true) → shL k (l.map f) = true
  | [], _ => rfl
  | x :: l, e => by
    simp only [List.map_cons, shL, e x List.mem_cons_self, Bool.true_and]
    exact shL_map fun y m => e y (List.mem_cons_of_mem _ m)
theorem shL_all : ∀ {l : List T}, (∀ x ∈ l, shT k x = true) → shL k l = true
  | [], _ => rfl
  | x :: l, e => by
    simp only [shL, e x List.mem_cons_self, Bool.true_and]
    exact shL_all fun y m => e y (List.mem_cons_of_mem _ m)
theorem sh_ints : shT 1 (.tup (xs.map T.int)) = true := by simp only [shT]; exact shL_map fun _ _ => rfl
theorem sh_intsL : shT 1 (.lst (xs.map T.int)) = true := by simp only [shT]; exact shL_map fun _ _ => rfl
theorem ints_of : ∀ (xs : List Int), intsL (xs.map T.int) = some xs
  | [] => rfl
  | x :: xs => by show (intsL (xs.map T.int)).map (x :: ·) = _; rw [ints_of xs]; rfl
theorem trus_int : ∀ (xs : List Int), truL (xs.map T.int) = some (xs.map (· != 0))
  | [] => rfl
  | x :: xs => by show (match truT (.int x), truL (xs.map T.int) with | some b, some bs => some (b :: bs) | _, _ => none) = _; rw [trus_int xs]; rfl
theorem trus_bl : ∀ (xs : List Bool), truL (xs.map T.bl) = some xs
  | [] => rfl
  | x :: xs => by show (match truT (.bl x), truL (xs.map T.bl) with | some b, some bs => some (b :: bs) | _, _ => none) = _; rw [trus_bl xs]; rfl
theorem q_maxL {x : Int} : gMax (.lst ((x :: xs).map T.int)) h = some (.int (xs.foldl max x)) := by
  show ((some ((x :: xs).map T.int)).bind intsL).bind (fun is => (maxI is).map T.int) = _
  show (intsL ((x :: xs).map T.int)).bind (fun is => (maxI is).map T.int) = _
  rw [ints_of]; rfl
theorem q_sumL : gSum (.lst (xs.map T.int)) h = some (.int xs.sum) := by
  show (intsL (xs.map T.int)).map (fun is => T.int is.sum) = _
  rw [ints_of]; rfl
theorem q_anyI : gAny (.lst (xs.map T.int)) h = some (.bl (xs.any (· != 0))) := by
  show (truL (xs.map T.int)).map (fun is => T.bl (is.any id)) = _
  rw [trus_int]; show some (T.bl _) = _; rw [List.any_map]; rfl
theorem q_anyB {bs : List Bool} : gAny (.lst (bs.map T.bl)) h = some (.bl (bs.any id)) := by
  show (truL (bs.map T.bl)).map (fun is => T.bl (is.any id)) = _
  rw [trus_bl]; rfl
theorem q_allB {bs : List Bool} : gAll (.lst (bs.map T.bl)) h = some (.bl (bs.all id)) := by
  show (truL (bs.map T.bl)).map (fun is => T.bl (is.all id)) = _
  rw [trus_bl]; rfl
end
section
variable {α : Type} {a b c d e f : α} {l : List α}
theorem at_nat {k : Nat} : atI l (k : Int) = l[k]? := by
  unfold atI ixN
  rw [if_pos (by omega)]
  split
  · simp
  · rename_i q
    simp only [Option.bind_none]
    rw [List.getElem?_eq_none (by omega)]
theorem at0 : atI (a :: l) 0 = some a := at_nat (k := 0)
theorem at1 : atI (a :: b :: l) 1 = some b := at_nat (k := 1)
theorem at2 : atI (a :: b :: c :: l) 2 = some c := at_nat (k := 2)
theorem at3 : atI (a :: b :: c :: d :: l) 3 = some d := at_nat (k := 3)
theorem at4 : atI (a :: b :: c :: d :: e :: l) 4 = some e := at_nat (k := 4)
theorem at5 : atI (a :: b :: c :: d :: e :: f :: l) 5 = some f := at_nat (k := 5)
theorem at_last : atI (l ++ [a]) (-1) = some a := by
  unfold atI ixN
  rw [if_neg (by omega), if_pos (by simp; omega)]
  simp only [Option.bind_some, List.length_append, List.length_singleton]
  have : ((-1 : Int) + ((l.length + 1 : Nat) : Int)).toNat = l.length := by omega
  rw [this]; simp
theorem ix0 {n : Nat} (h : 0 < n) : ixN n 0 = some 0 := by unfold ixN; rw [if_pos (by omega), if_pos (by omega)]; rfl
theorem ix1 {n : Nat} (h : 1 < n) : ixN n 1 = some 1 := by unfold ixN; rw [if_pos (by omega), if_pos (by omega)]; rfl
theorem ix_nat {n k : Nat} (h : k < n) : ixN n (k : Int) = some k := by unfold ixN; rw [if_pos (by omega), if_pos (by omega)]; simp
end
end GB
namespace GB
open PySem PySem.Spec PyProof.Rows L2
/-- a bag of digits -/
def Bag (h : IH) (n : Nat) : Prop := ∃ c m : Int, h[n]? = some (.lst [.int c, .int m]) ∧ 0 ≤ c ∧ 0 ≤ m ∧ m < 2147483629 ∧ flatH h = true
theorem Bag.flat {h : IH} {n : Nat} (b : Bag h n) : flatH h = true := let ⟨_, _, _, _, _, _, f⟩ := b; f
theorem flat_end {h : IH} {a b : Int} (f : flatH h = true) : flatH (h ++ [.lst [.int a, .int b]]) = true := by
  unfold flatH at f ⊢
  rw [List.all_append, f]; rfl
theorem flat_set {h : IH} {n : Nat} {a b : Int} (f : flatH h = true) : flatH (h.set n (.lst [.int a, .int b])) = true := by
  unfold flatH at f ⊢
  rw [List.all_eq_true] at f ⊢
  intro c mc
  rcases List.mem_or_eq_of_mem_set mc with m | e
  · exact f c m
  · rw [e]; rfl
theorem set_get {h : IH} {n : Nat} {c d : Cell} (e : h[n]? = some c) : (h.set n d)[n]? = some d := by
  have := (List.getElem?_eq_some_iff.mp e).1
  rw [List.getElem?_set_self this]
theorem end_get {h : IH} {c : Cell} : (h ++ [c])[h.length]? = some c := by simp
theorem seq_mid {s1 s2 : SS} {τ : Ev} {h : IH} {N : Ev → IH → Prop} {M : T → IH → Prop} (Mid : Ev → IH → Prop) (a : OkS (s1 τ h) Mid M) (b : ∀ τ h, Mid τ h → OkS (s2 τ h) N M) : OkS (sSeq s1 s2 τ h) N M := by
  rw [v_Seq]; exact a.imp (fun τ h m => b τ h m) fun _ _ q => q
/-- the items of a list of numbers -/
theorem int_at {ns : List Int} {k : Nat} (hk : k < ns.length) : atI (ns.map T.int) (k : Int) = some (.int (ns[k]'hk)) := by
  rw [at_nat, List.getElem?_map, List.getElem?_eq_getElem hk]; rfl
theorem int_atI {ns : List Int} {k : Int} (h0 : 0 ≤ k) (hk : k < ns.length) : ∃ z ∈ ns, atI (ns.map T.int) k = some (.int z) := by
  obtain ⟨j, rfl⟩ : ∃ j : Nat, k = j := ⟨k.toNat, by omega⟩
  have hj : j < ns.length := by omega
  exact ⟨ns[j], List.getElem_mem hj, int_at hj⟩
theorem two_line : (2 : Nat) ≤ sizeLine := by decide
theorem three_line : (3 : Nat) ≤ sizeLine := by decide
theorem le_line {n : Nat} (h : n ≤ 100000) : n ≤ sizeLine := Nat.le_trans h (by decide)
theorem rng_ints {lo c : Int} {n : Nat} : rngL lo n c = ((List.range n).map fun (k : Nat) => lo + (k : Int) * c).map T.int := by
  unfold rngL; rw [List.map_map]; rfl
end GB
namespace GB
open PySem PySem.Spec PyProof.Rows L2
abbrev lineT (xs : List Int) (s : Int) : T := .tup [.str "line", .tup (xs.map T.int), .int s]
theorem all2_ints {p : Int → Prop} {ts ys : List T} (h : All2 (fun _ y => ∃ d, y = T.int d ∧ p d) ts ys) : ∃ xs : List Int, ys = xs.map T.int ∧ (∀ x ∈ xs, p x) ∧ xs.length = ts.length := by
  induction h with
  | nil => exact ⟨[], rfl, by simp, rfl⟩
  | cons q _ ih =>
    obtain ⟨d, rfl, pd⟩ := q
    obtain ⟨xs, rfl, h1, h2⟩ := ih
    exact ⟨d :: xs, rfl, fun x m => (List.mem_cons.mp m).elim (fun e => e ▸ pd) (h1 x), by simp [h2]⟩
/-- the greatest number without signs -/
def lead (xs : List Int) : Int := (xs.map fun x => (x.natAbs : Int)).foldl max 0
theorem foldl_max_le {m : Int} : ∀ (xs : List Int) (i : Int), i ≤ m → (∀ x ∈ xs, x ≤ m) → xs.foldl max i ≤ m
  | [], i, h, _ => h
  | x :: xs, i, h, k => foldl_max_le xs (max i x) (by have := k x List.mem_cons_self; omega) fun y my => k y (List.mem_cons_of_mem _ my)
theorem le_lead {xs : List Int} {x : Int} (h : x ∈ xs) : (x.natAbs : Int) ≤ lead xs := (foldl_max_ge _ 0).2 _ (List.mem_map.mpr ⟨x, h, rfl⟩)
theorem lead_nonneg {xs : List Int} : 0 ≤ lead xs := (foldl_max_ge _ 0).1
theorem lead_le {xs : List Int} {m : Int} (h0 : 0 ≤ m) (h : ∀ x ∈ xs, -m ≤ x ∧ x ≤ m) : lead xs ≤ m := foldl_max_le _ _ h0 fun y my => by
  obtain ⟨x, mx, rfl⟩ := List.mem_map.mp my
  have := h x mx; omega
theorem lead_pos {xs : List Int} (h : ∃ x ∈ xs, x ≠ 0) : 1 ≤ lead xs := by
  obtain ⟨x, mx, nz⟩ := h
  have := le_lead mx; omega
theorem lead_eq {x : Int} {xs : List Int} : (((x :: xs).map fun x => (x.natAbs : Int)).tail.foldl max (x.natAbs : Int)) = lead (x :: xs) := by
  unfold lead
  simp only [List.map_cons, List.tail_cons, List.foldl_cons]
  rw [Int.max_eq_right (Int.natCast_nonneg _)]
theorem q_maxAbs {xs : List Int} {h : IH} (n : xs ≠ []) : gMax (.lst (xs.map fun x => T.int (x.natAbs : Int))) h = some (.int (lead xs)) := by
  cases xs with
  | nil => exact absurd rfl n
  | cons x xs =>
    have := q_maxL (h := h) (x := (x.natAbs : Int)) (xs := xs.map fun x => (x.natAbs : Int))
    rw [show ((x :: xs).map fun x => T.int (x.natAbs : Int)) = (((x.natAbs : Int) :: xs.map fun x => (x.natAbs : Int)).map T.int) by simp]
    rw [this]
    exact congrArg (fun z => some (T.int z)) lead_eq
theorem mul_box {k x a b : Int} (k0 : 0 ≤ k) (k1 : k ≤ a) (x0 : -b ≤ x) (x1 : x ≤ b) : -(a * b) ≤ k * x ∧ k * x ≤ a * b := by
  have h1 : k * x ≤ a * b := Int.le_trans (Int.mul_le_mul_of_nonneg_left x1 k0) (Int.mul_le_mul_of_nonneg_right k1 (by omega))
  have h2 : k * (-x) ≤ a * b := Int.le_trans (Int.mul_le_mul_of_nonneg_left (by omega : -x ≤ b) k0) (Int.mul_le_mul_of_nonneg_right k1 (by omega))
  rw [Int.mul_neg] at h2
  omega
/-- to the nearest whole number, halves away from 0 -/
def near (u l : Int) : Int := if u < 0 then -((2 * (u.natAbs : Int) + l) / (2 * l)) else (2 * (u.natAbs : Int) + l) / (2 * l)
theorem ediv_is {n d q : Int} (h : 0 < d) (a : q * d ≤ n) (b : n < (q + 1) * d) : n / d = q := by
  have h1 := (Int.le_ediv_iff_mul_le h).mpr a
  have h2 := (Int.ediv_lt_iff_lt_mul h).mpr b
  omega
theorem near_floor {u l : Int} (h : 0 < l) : near u l = if l < 2 * (u % l) ∨ (2 * (u % l) = l ∧ 0 ≤ u) then u / l + 1 else u / l := by
  have e := Int.mul_ediv_add_emod u l
  have r0 := Int.emod_nonneg u (by omega : l ≠ 0)
  have r1 := Int.emod_lt_of_pos u h
  generalize u / l = a at e ⊢
  generalize u % l = r at e r0 r1 ⊢
  have e' : u = l * a + r := e.symm
  unfold near
  have ea : a * (2 * l) = 2 * (l * a) := by rw [Int.mul_left_comm, Int.mul_comm a l]
  have ea1 : (a + 1) * (2 * l) = 2 * (l * a) + 2 * l := by rw [Int.add_mul, ea]; omega
  have ea2 : (a + 1 + 1) * (2 * l) = 2 * (l * a) + 4 * l := by rw [Int.add_mul, ea1]; omega
  have en : -a * (2 * l) = -(2 * (l * a)) := by rw [Int.neg_mul, ea]
  have en1 : (-a + 1) * (2 * l) = -(2 * (l * a)) + 2 * l := by rw [Int.add_mul, en]; omega
  have en2 : (-a - 1) * (2 * l) = -(2 * (l * a)) - 2 * l := by rw [Int.sub_mul, en]; omega
  have en3 : (-a - 1 + 1) * (2 * l) = -(2 * (l * a)) := by rw [Int.add_mul, en2]; omega
  by_cases q : u < 0
  · rw [if_pos q]
    have eu : (u.natAbs : Int) = -(l * a) - r := by omega
    rw [eu]
    by_cases c : l < 2 * r
    · rw [if_pos (.inl c)]
      rw [ediv_is (q := -a - 1) (by omega) (by rw [en2]; omega) (by rw [en3]; omega)]
      omega
    · rw [if_neg (by omega)]
      rw [ediv_is (q := -a) (by omega) (by rw [en]; omega) (by rw [en1]; omega)]
      omega
  · rw [if_neg q]
    have eu : (u.natAbs : Int) = l * a + r := by omega
    rw [eu]
    by_cases c : l ≤ 2 * r
    · rw [if_pos (by omega)]
      exact ediv_is (by omega) (by rw [ea1]; omega) (by rw [ea2]; omega)
    · rw [if_neg (by omega)]
      exact ediv_is (by omega) (by rw [ea]; omega) (by rw [ea1]; omega)
theorem near_zero {l : Int} (h : 0 < l) : near 0 l = 0 := by
  rw [near_floor h, Int.zero_emod, Int.zero_ediv, if_neg (by omega)]
theorem near_mul {x l : Int} (h : 0 < l) : near (l * x) l = x := by
  rw [near_floor h, Int.mul_emod_right, Int.mul_ediv_cancel_left x (by omega), if_neg (by omega)]
theorem rep_zeros {n : Nat} {h : IH} (h2 : 2 ≤ n) (h3 : n ≤ 1000) : gRepT (.tup [.int 0]) (.int (n : Int)) h = some (.tup (List.replicate n (.int 0))) := by
  have e : (List.replicate n [T.int 0]).flatten = List.replicate n (.int 0) := by simp
  show (if ([T.int 0] : List T) ≠ [] ∧ 2 ≤ (n : Int) ∧ (n : Int) ≤ 1000 ∧ ([T.int 0] : List T).length ≤ 1000 then some (T.tup (List.replicate (n : Int).toNat [T.int 0]).flatten) else none) = _
  rw [if_pos ⟨by simp, by omega, by omega, by simp⟩, Int.toNat_natCast, e]
end GB
namespace GB
open PySem PySem.Spec PyProof.Rows L2
/-! ### isinstance -/
theorem is_int_non  {h : IH} : gIsi ["int"] .non h = some (.bl false) := rfl
theorem is_int_bl {b : Bool} {h : IH} : gIsi ["int"] (.bl b) h = some (.bl true) := rfl
theorem is_int_int {i : Int} {h : IH} : gIsi ["int"] (.int i) h = some (.bl true) := rfl
theorem is_int_str {z : Str} {h : IH} : gIsi ["int"] (.str z) h = some (.bl false) := rfl
theorem is_int_tup {ts : List T} {h : IH} : gIsi ["int"] (.tup ts) h = some (.bl false) := rfl
theorem is_int_lst {ts : List T} {h : IH} : gIsi ["int"] (.lst ts) h = some (.bl false) := rfl
theorem is_bool_non  {h : IH} : gIsi ["bool"] .non h = some (.bl false) := rfl
theorem is_bool_bl {b : Bool} {h : IH} : gIsi ["bool"] (.bl b) h = some (.bl true) := rfl
theorem is_bool_int {i : Int} {h : IH} : gIsi ["bool"] (.int i) h = some (.bl false) := rfl
theorem is_bool_str {z : Str} {h : IH} : gIsi ["bool"] (.str z) h = some (.bl false) := rfl
theorem is_bool_tup {ts : List T} {h : IH} : gIsi ["bool"] (.tup ts) h = some (.bl false) := rfl
theorem is_bool_lst {ts : List T} {h : IH} : gIsi ["bool"] (.lst ts) h = some (.bl false) := rfl
theorem is_str_non  {h : IH} : gIsi ["str"] .non h = some (.bl false) := rfl
theorem is_str_bl {b : Bool} {h : IH} : gIsi ["str"] (.bl b) h = some (.bl false) := rfl
theorem is_str_int {i : Int} {h : IH} : gIsi ["str"] (.int i) h = some (.bl false) := rfl
theorem is_str_str {z : Str} {h : IH} : gIsi ["str"] (.str z) h = some (.bl true) := rfl
theorem is_str_tup {ts : List T} {h : IH} : gIsi ["str"] (.tup ts) h = some (.bl false) := rfl
theorem is_str_lst {ts : List T} {h : IH} : gIsi ["str"] (.lst ts) h = some (.bl false) := rfl
theorem is_tuple_non  {h : IH} : gIsi ["tuple"] .non h = some (.bl false) := rfl
theorem is_tuple_bl {b : Bool} {h : IH} : gIsi ["tuple"] (.bl b) h = some (.bl false) := rfl
theorem is_tuple_int {i : Int} {h : IH} : gIsi ["tuple"] (.int i) h = some (.bl false) := rfl
theorem is_tuple_str {z : Str} {h : IH} : gIsi ["tuple"] (.str z) h = some (.bl false) := rfl
theorem is_tuple_tup {ts : List T} {h : IH} : gIsi ["tuple"] (.tup ts) h = some (.bl true) := rfl
theorem is_tuple_lst {ts : List T} {h : IH} : gIsi ["tuple"] (.lst ts) h = some (.bl false) := rfl
theorem is_list_non  {h : IH} : gIsi ["list"] .non h = some (.bl false) := rfl
theorem is_list_bl {b : Bool} {h : IH} : gIsi ["list"] (.bl b) h = some (.bl false) := rfl
theorem is_list_int {i : Int} {h : IH} : gIsi ["list"] (.int i) h = some (.bl false) := rfl
theorem is_list_str {z : Str} {h : IH} : gIsi ["list"] (.str z) h = some (.bl false) := rfl
theorem is_list_tup {ts : List T} {h : IH} : gIsi ["list"] (.tup ts) h = some (.bl false) := rfl
theorem is_list_lst {ts : List T} {h : IH} : gIsi ["list"] (.lst ts) h = some (.bl true) := rfl
/-! ### the greatest common divisor by turns -/
theorem gcd_fmod (a b : Int) : Int.gcd b (a.fmod b) = Int.gcd a b := by
  rw [Int.fmod_def, Int.gcd_sub_mul_left_right, Int.gcd_comm]
theorem fmod_small (a b : Int) (h : b ≠ 0) : (a.fmod b).natAbs < b.natAbs := by
  rcases Int.lt_or_le b 0 with q | q
  · have e : (-a).fmod (-b) = -(a.fmod b) := Int.neg_fmod_neg a b
    rw [Int.fmod_eq_emod_of_nonneg (-a) (by omega)] at e
    have h1 := Int.emod_nonneg (-a) (by omega : -b ≠ 0)
    have h2 := Int.emod_lt_of_pos (-a) (by omega : 0 < -b)
    omega
  · rw [Int.fmod_eq_emod_of_nonneg a q]
    have h1 := Int.emod_nonneg a h
    have h2 := Int.emod_lt_of_pos a (by omega : 0 < b)
    omega
section
variable {i j : Nat} {a b : Int} {τ : Ev} {h : IH} {N : Ev → IH → Prop} {M : T → IH → Prop}
theorem gcd_wh {c : SB} {S : Int → Prop} (hS : ∀ a b, S a → S b → b ≠ 0 → S (a.fmod b)) (hc : ∀ (τ' : Ev) (b : Int) (h : IH), S b → τ'[j]? = some (some (.int b)) → c τ' h = .ok (decide (b ≠ 0)) h)
    (hij : i ≠ j) (hi : τ[i]? = some (some (.int a))) (hj : τ[j]? = some (some (.int b))) (sa : S a) (sb : S b)
    (p : ∀ a', S a' → a'.natAbs = Int.gcd a b → N ((τ.set i (some (.int a'))).set j (some (.int 0))) h) :
    OkS (sWh c (sPar [i, j] (aCons (eV j) (aCons (eBin gMod (eV i) (eV j)) aNil))) τ h) N M := by
  have li : i < τ.length := (List.getElem?_eq_some_iff.mp hi).1
  have lj : j < τ.length := (List.getElem?_eq_some_iff.mp hj).1
  have e0 : τ = (τ.set i (some (.int a))).set j (some (.int b)) := by
    refine List.ext_getElem? fun k => ?_
    by_cases kj : k = j
    · subst kj; rw [List.getElem?_set_self (by simpa using lj), hj]
    · rw [List.getElem?_set_ne (Ne.symm kj)]
      by_cases ki : k = i
      · subst ki; rw [List.getElem?_set_self li, hi]
      · rw [List.getElem?_set_ne (Ne.symm ki)]
  refine wh_inv (fun n τ' h' => h' = h ∧ ∃ a' b', τ' = (τ.set i (some (.int a'))).set j (some (.int b')) ∧ S a' ∧ S b' ∧ Int.gcd a' b' = Int.gcd a b ∧ b'.natAbs = n) _ _ _ ⟨rfl, a, b, e0, sa, sb, rfl, rfl⟩ ?_
  rintro n τ' h' ⟨rfl, a', b', rfl, sa', sb', g, rfl⟩
  have gi : ((τ.set i (some (T.int a'))).set j (some (.int b')))[i]? = some (some (.int a')) := by rw [List.getElem?_set_ne (Ne.symm hij), List.getElem?_set_self li]
  have gj : ((τ.set i (some (T.int a'))).set j (some (.int b')))[j]? = some (some (.int b')) := by rw [List.getElem?_set_self (by simpa using lj)]
  rw [hc _ b' _ sb' gj, w_ok]
  by_cases z : b' = 0
  · rw [if_neg (by simpa using z)]
    subst z
    rw [Int.gcd_zero] at g
    exact p a' sa' g
  · rw [if_pos (by simpa using z)]
    rw [v_Par]
    simp only [w_Cons, w_V, w_Bin, w_Nil, gi, gj, ex_eqT, q_mod, ex_ite, okMod_iff]
    refine ⟨z, _, rfl, _, fmod_small a' b' z, trivial, b', a'.fmod b', ?_, sb', hS _ _ sa' sb' z, by rw [gcd_fmod, g], rfl⟩
    show (((τ.set i _).set j _).set i _).set j _ = _
    rw [List.set_comm _ _ (Ne.symm hij), List.set_set, List.set_set]
theorem gcd_pos_wh (hij : i ≠ j) (hi : τ[i]? = some (some (.int a))) (hj : τ[j]? = some (some (.int b))) (a0 : 0 ≤ a) (b0 : 0 ≤ b)
    (p : N ((τ.set i (some (.int (Int.gcd a b : Int)))).set j (some (.int 0))) h) :
    OkS (sWh (sOf (eBin gGt (eV j) (eC (.int 0)))) (sPar [i, j] (aCons (eV j) (aCons (eBin gMod (eV i) (eV j)) aNil))) τ h) N M := by
  refine gcd_wh (S := fun a => 0 ≤ a) (fun a b ha hb z => ?_) (fun τ' b h hb e => ?_) hij hi hj a0 b0 fun a' ha' e => ?_
  · rw [Int.fmod_eq_emod_of_nonneg a hb]; exact Int.emod_nonneg a z
  · refine Ok.eq ?_
    simp only [w_Of, w_Bin, w_V, w_C, e, ex_eqT, q_gt, ex_some, ex_bl]
    exact ⟨decide_eq_decide.mpr (by omega), trivial⟩
  · have : a' = (Int.gcd a b : Int) := by omega
    rw [this]; exact p
theorem gcd_any_wh (hij : i ≠ j) (hi : τ[i]? = some (some (.int a))) (hj : τ[j]? = some (some (.int b)))
    (p : ∀ a', a'.natAbs = Int.gcd a b → N ((τ.set i (some (.int a'))).set j (some (.int 0))) h) :
    OkS (sWh (sOf (eBin gNe (eV j) (eC (.int 0)))) (sPar [i, j] (aCons (eV j) (aCons (eBin gMod (eV i) (eV j)) aNil))) τ h) N M := by
  refine gcd_wh (S := fun a => True) (fun a b ha hb z => trivial) (fun τ' b h hb e => ?_) hij hi hj trivial trivial fun a' ha' e => p a' e
  refine Ok.eq ?_
  simp only [w_Of, w_Bin, w_V, w_C, e, ex_eqT, q_ne, ex_some, ex_bl]
  refine ⟨?_, trivial⟩
  by_cases z : b = 0 <;> simp [z]
end
/-! ### fractions -/
/-- in lowest terms; q above 0 -/
def lowT (p q : Int) : T := .tup [.int (p / (Int.gcd p q : Int)), .int (q / (Int.gcd p q : Int))]
theorem gcd_pos_of {p q : Int} (h : 0 < q) : 0 < (Int.gcd p q : Int) := by
  have := Int.gcd_pos_of_ne_zero_right p (by omega : q ≠ 0); omega
theorem gcd_le {p q : Int} (h : 0 < q) : (Int.gcd p q : Int) ≤ q := Int.le_of_dvd h (Int.gcd_dvd_right ..)
theorem gcd_abs {p q : Int} : Int.gcd (p.natAbs : Int) (q.natAbs : Int) = Int.gcd p q := by simp [Int.gcd_eq_natAbs_gcd_natAbs]
theorem gcd_abs1 {p q : Int} : Int.gcd (p.natAbs : Int) q = Int.gcd p q := by simp [Int.gcd_eq_natAbs_gcd_natAbs]
theorem sh_low {p q : Int} : shT 1 (lowT p q) = true := rfl
/-- a fraction in lowest terms, its lower number above 0 -/
structure Fq (p q : Int) : Prop where
  pos : 0 < q
  one : Int.gcd p q = 1
theorem Fq.low {p q : Int} (f : Fq p q) : lowT p q = .tup [.int p, .int q] := by
  unfold lowT; rw [f.one]; simp
theorem fq_of {p q : Int} (h : 0 < q) : Fq (p / (Int.gcd p q : Int)) (q / (Int.gcd p q : Int)) := by
  have g0 := gcd_pos_of (p := p) h
  obtain ⟨a, ea⟩ := Int.gcd_dvd_left p q
  obtain ⟨b, eb⟩ := Int.gcd_dvd_right p q
  generalize hg : (Int.gcd p q : Int) = g at *
  have e1 : p / g = a := by rw [ea]; exact Int.mul_ediv_cancel_left _ (by omega)
  have e2 : q / g = b := by rw [eb]; exact Int.mul_ediv_cancel_left _ (by omega)
  rw [e1, e2]
  refine ⟨?_, ?_⟩
  · rcases Int.lt_or_le 0 b with z | z
    · exact z
    · have : g * b ≤ g * 0 := Int.mul_le_mul_of_nonneg_left z (by omega)
      omega
  · have h1 := Int.gcd_mul_left g a b
    rw [← ea, ← eb] at h1
    have h2 : Int.gcd p q = g.natAbs := by omega
    rw [h2] at h1
    have h3 : g.natAbs * 1 = g.natAbs * Int.gcd a b := by omega
    exact (Nat.eq_of_mul_eq_mul_left (by omega) h3).symm
/-- the same number, the same fraction -/
theorem low_eq {p q r s : Int} (hq : 0 < q) (hs : 0 < s) (e : p * s = r * q) : lowT p q = lowT r s := by
  have g1 := gcd_pos_of (p := p) hq
  have g2 := gcd_pos_of (p := r) hs
  have hm1 : Int.gcd (p * s) (q * s) = Int.gcd p q * s.natAbs := Int.gcd_mul_right p s q
  have hm2 : Int.gcd (r * q) (s * q) = Int.gcd r s * q.natAbs := Int.gcd_mul_right r q s
  rw [e, Int.mul_comm q s] at hm1
  have hgg : (Int.gcd p q : Int) * s = (Int.gcd r s : Int) * q := by
    have h3 : (Int.gcd p q : Int) * (s.natAbs : Int) = (Int.gcd r s : Int) * (q.natAbs : Int) := by exact_mod_cast (hm1.symm.trans hm2)
    have h4 : (s.natAbs : Int) = s := by omega
    have h5 : (q.natAbs : Int) = q := by omega
    rw [h4, h5] at h3; exact h3
  obtain ⟨a, ea⟩ := Int.gcd_dvd_left p q
  obtain ⟨b, eb⟩ := Int.gcd_dvd_right p q
  obtain ⟨c, ec⟩ := Int.gcd_dvd_left r s
  obtain ⟨d, ed⟩ := Int.gcd_dvd_right r s
  unfold lowT
  generalize (Int.gcd p q : Int) = g at *
  generalize (Int.gcd r s : Int) = k at *
  have ne1 : g ≠ 0 := by omega
  have ne2 : k ≠ 0 := by omega
  have nq : q ≠ 0 := by omega
  have ns : s ≠ 0 := by omega
  have e1 : p / g = a := by rw [ea]; exact Int.mul_ediv_cancel_left _ ne1
  have e2 : q / g = b := by rw [eb]; exact Int.mul_ediv_cancel_left _ ne1
  have e3 : r / k = c := by rw [ec]; exact Int.mul_ediv_cancel_left _ ne2
  have e4 : s / k = d := by rw [ed]; exact Int.mul_ediv_cancel_left _ ne2
  rw [e1, e2, e3, e4]
  -- b = d
  have hbd : b = d := by
    have h6 : g * (k * d) = k * (g * b) := by rw [← ed, ← eb]; exact hgg
    have h7 : (g * k) * d = (g * k) * b := by rw [Int.mul_assoc, h6, Int.mul_comm g k, Int.mul_assoc]
    exact (Int.eq_of_mul_eq_mul_left (Int.mul_ne_zero ne1 ne2) h7).symm
  have hac : a = c := by
    have h6 : (g * a) * (k * d) = (k * c) * (g * b) := by rw [← ea, ← ed, ← ec, ← eb]; exact e
    have nd : d ≠ 0 := fun z => by rw [z, Int.mul_zero] at ed; exact ns ed
    have h7 : (g * k * d) * a = (g * k * d) * c := by
      have l1 : (g * a) * (k * d) = (g * k * d) * a := by ac_rfl
      have l2 : (k * c) * (g * b) = (g * k * b) * c := by ac_rfl
      rw [← l1, h6, l2, hbd]
    exact Int.eq_of_mul_eq_mul_left (Int.mul_ne_zero (Int.mul_ne_zero ne1 ne2) nd) h7
  rw [hac, hbd]
theorem div_gcd_le {p q m : Int} (h : 0 < q) (h1 : -m ≤ p) (h2 : p ≤ m) : -m ≤ p / (Int.gcd p q : Int) ∧ p / (Int.gcd p q : Int) ≤ m := by
  have g0 := gcd_pos_of (p := p) h
  obtain ⟨a, ea⟩ := Int.gcd_dvd_left p q
  generalize (Int.gcd p q : Int) = g at *
  have e1 : p / g = a := by rw [ea]; exact Int.mul_ediv_cancel_left _ (by omega)
  rw [e1]
  rcases Int.lt_or_le a 0 with z | z
  · have : g * a ≤ 1 * a := Int.mul_le_mul_of_nonpos_right (by omega) (by omega)
    omega
  · have : 1 * a ≤ g * a := Int.mul_le_mul_of_nonneg_right (by omega) z
    omega
end GB
namespace GB
open PySem PySem.Spec PyProof.Rows L2
abbrev machT (xs : List Int) (a b c d : Int) : T := .tup [.tup (xs.map T.int), .int a, .int b, .int c, .int d]
theorem sq_lt {a b : Int} (a0 : 0 ≤ a) (h : a * a < b * b) (b0 : 0 ≤ b) : a < b := by
  rcases Int.lt_or_le a b with q | q
  · exact q
  · have : b * b ≤ a * a := Int.mul_le_mul q q b0 a0
    omega
theorem low_pos {p q m : Int} (hp : 1 ≤ p) (hq : 1 ≤ q) (p1 : p ≤ m) (q1 : q ≤ m) : ∃ u l, lowT p q = .tup [.int u, .int l] ∧ 1 ≤ u ∧ u ≤ m ∧ 1 ≤ l ∧ l ≤ m ∧ p * l = u * q := by
  have g0 := gcd_pos_of (p := p) (by omega : 0 < q)
  obtain ⟨a, ea⟩ := Int.gcd_dvd_left p q
  obtain ⟨b, eb⟩ := Int.gcd_dvd_right p q
  unfold lowT
  generalize (Int.gcd p q : Int) = g at *
  have e1 : p / g = a := by rw [ea]; exact Int.mul_ediv_cancel_left _ (by omega)
  have e2 : q / g = b := by rw [eb]; exact Int.mul_ediv_cancel_left _ (by omega)
  have pa : 1 ≤ a := by
    rcases Int.lt_or_le 0 a with z | z
    · omega
    · have : g * a ≤ g * 0 := Int.mul_le_mul_of_nonneg_left z (by omega)
      omega
  have pb : 1 ≤ b := by
    rcases Int.lt_or_le 0 b with z | z
    · omega
    · have : g * b ≤ g * 0 := Int.mul_le_mul_of_nonneg_left z (by omega)
      omega
  have ga : 1 * a ≤ g * a := Int.mul_le_mul_of_nonneg_right (by omega) (by omega)
  have gb : 1 * b ≤ g * b := Int.mul_le_mul_of_nonneg_right (by omega) (by omega)
  exact ⟨a, b, by rw [e1, e2], pa, by omega, pb, by omega, by rw [ea, eb]; ac_rfl⟩
theorem ceil_le {w u t : Int} (u0 : 0 < u) : (w + u - 1) / u ≤ t ↔ w ≤ t * u := by
  rw [Int.ediv_le_iff_le_mul u0]
  omega
/-- a fraction in lowest terms whose numbers are at most m -/
structure FqB (m p q : Int) : Prop where
  fq : Fq p q
  lo : -m ≤ p
  hi : p ≤ m
  qm : q ≤ m
theorem FqB.neg {m p q : Int} (f : FqB m p q) : FqB m (-p) q := ⟨⟨f.fq.pos, by rw [Int.neg_gcd]; exact f.fq.one⟩, by have := f.hi; omega, by have := f.lo; omega, f.qm⟩
abbrev frT (p q : Int) : T := .tup [.int p, .int q]
theorem fqB_low {m p q : Int} (h : 0 < q) (h1 : -m ≤ p) (h2 : p ≤ m) (h3 : q ≤ m) : ∃ u l, lowT p q = frT u l ∧ FqB m u l ∧ p * l = u * q := by
  have g0 := gcd_pos_of (p := p) h
  obtain ⟨b1, b2⟩ := div_gcd_le h h1 h2
  have b3 := Int.ediv_le_self (b := (Int.gcd p q : Int)) (a := q) (by omega)
  refine ⟨_, _, rfl, ⟨fq_of h, b1, b2, by omega⟩, ?_⟩
  obtain ⟨a, ea⟩ := Int.gcd_dvd_left p q
  obtain ⟨b, eb⟩ := Int.gcd_dvd_right p q
  generalize (Int.gcd p q : Int) = g at *
  have e1 : p / g = a := by rw [ea]; exact Int.mul_ediv_cancel_left _ (by omega)
  have e2 : q / g = b := by rw [eb]; exact Int.mul_ediv_cancel_left _ (by omega)
  rw [e1, e2]
  rw [ea, eb]
  ac_rfl
/-! ### lists of fractions -/
abbrev Fr2 := Int × Int
abbrev frt (f : Fr2) : T := frT f.1 f.2
def frL (fs : List Fr2) : List T := fs.map frt
abbrev Fok (m : Int) (f : Fr2) : Prop := FqB m f.1 f.2
/-- the least of them: the first of the least ones -/
def leastF (fs : List Fr2) (f : Fr2) : Fr2 := fs.foldl (fun f g => if g.1 * f.2 < f.1 * g.2 then g else f) f
theorem leastF_mem : ∀ (fs : List Fr2) (f : Fr2), leastF fs f = f ∨ leastF fs f ∈ fs
  | [], f => .inl rfl
  | g :: fs, f => by
    by_cases c : g.1 * f.2 < f.1 * g.2
    · have e : leastF (g :: fs) f = leastF fs g := by
        rw [show leastF (g :: fs) f = leastF fs (if g.1 * f.2 < f.1 * g.2 then g else f) from rfl, if_pos c]
      rw [e]
      rcases leastF_mem fs g with z | z
      · rw [z]; exact .inr List.mem_cons_self
      · exact .inr (List.mem_cons_of_mem _ z)
    · have e : leastF (g :: fs) f = leastF fs f := by
        rw [show leastF (g :: fs) f = leastF fs (if g.1 * f.2 < f.1 * g.2 then g else f) from rfl, if_neg c]
      rw [e]
      rcases leastF_mem fs f with z | z
      · exact .inl z
      · exact .inr (List.mem_cons_of_mem _ z)
theorem q_slL {ts : List T} {lo hi : Option Int} {h : IH} : gSlL (.lst ts) lo hi h = some (.lst (cutL ts lo hi)) := rfl
theorem q_slT {ts : List T} {lo hi : Option Int} {h : IH} : gSlT (.tup ts) lo hi h = some (.tup (cutL ts lo hi)) := rfl
theorem cut_to {α : Type} {xs : List α} {k : Nat} : cutL xs none (some (k : Int)) = xs.take k := by
  unfold cutL
  rw [HT.sIx_none, HT.sIx_nat, List.drop_zero, Nat.sub_zero]
  rcases Nat.le_total k xs.length with h | h
  · rw [Nat.min_eq_left h]
  · rw [Nat.min_eq_right h, List.take_length, List.take_of_length_le h]
theorem cut_from {α : Type} {xs : List α} {k : Nat} : cutL xs (some (k : Int)) none = xs.drop k := by
  unfold cutL
  rw [HT.sIx_none, HT.sIx_nat]
  rcases Nat.le_total k xs.length with h | h
  · rw [Nat.min_eq_left h, List.take_of_length_le (by simp)]
  · rw [Nat.min_eq_right h, List.drop_eq_nil_of_le h, List.drop_eq_nil_of_le (Nat.le_refl _), List.take_nil]
theorem sh_frL {fs : List Fr2} : shT 2 (.lst (frL fs)) = true := by simp only [shT]; exact shL_map fun _ _ => rfl
theorem sh_frTs {fs : List Fr2} : shT 2 (.tup (frL fs)) = true := by simp only [shT]; exact shL_map fun _ _ => rfl
theorem frL_at {fs : List Fr2} {k : Int} (h0 : 0 ≤ k) (hk : k < fs.length) : ∃ f ∈ fs, atI (frL fs) k = some (frt f) := by
  obtain ⟨j, rfl⟩ : ∃ j : Nat, k = j := ⟨k.toNat, by omega⟩
  have hj : j < fs.length := by omega
  exact ⟨fs[j], List.getElem_mem hj, by rw [at_nat, frL, List.getElem?_map, List.getElem?_eq_getElem hj]; rfl⟩
theorem p_two {x : Int} : x ^ Int.toNat 2 = x * x := by show x ^ 2 = _; rw [Int.pow_succ, Int.pow_succ, Int.pow_zero, Int.one_mul]
theorem zip_maps {α β : Type} {f : α → T} {g : β → T} : ∀ {xs : List α} {ys : List β}, zipT (xs.map f) (ys.map g) = (xs.zip ys).map fun p => .tup [f p.1, g p.2]
  | [], _ => rfl
  | _ :: _, [] => rfl
  | x :: xs, y :: ys => by
    show T.tup [f x, g y] :: zipT (xs.map f) (ys.map g) = _
    rw [zip_maps]; rfl
/-- how far two ways lie apart, over both leads -/
def dif (xs ys : List Int) (L M : Int) : List Int := (xs.zip ys).map fun p => p.1 * M - p.2 * L
theorem lead_nil : lead [] = 0 := rfl
theorem foldl_max_max : ∀ (l : List Int) (a : Int), 0 ≤ a → l.foldl max a = max a (l.foldl max 0) 
  | [], a, h => by show a = max a 0; omega
  | x :: l, a, h => by
    show l.foldl max (max a x) = max a (l.foldl max (max 0 x))
    rw [foldl_max_max l (max a x) (by omega), foldl_max_max l (max 0 x) (by omega)]
    omega
theorem lead_cons {x : Int} {l : List Int} : lead (x :: l) = max (x.natAbs : Int) (lead l) := by
  show (l.map fun x => (x.natAbs : Int)).foldl max (max 0 (x.natAbs : Int)) = _
  rw [foldl_max_max _ _ (by omega)]
  show max (max 0 (x.natAbs : Int)) (lead l) = _
  have := lead_nonneg (xs := l)
  omega
/-- one is less, over one common lower number -/
theorem less_over {u l p q A B N : Int} (l0 : 0 < l) (q0 : 0 < q) (N0 : 0 < N) (e1 : u * N = A * l) (e2 : p * N = B * q) : (u * q < p * l) ↔ A < B := by
  have lq : 0 < l * q := Int.mul_pos l0 q0
  have h1 : (u * q) * N = A * (l * q) := by rw [show (u * q) * N = (u * N) * q by ac_rfl, e1]; ac_rfl
  have h2 : (p * l) * N = B * (l * q) := by rw [show (p * l) * N = (p * N) * l by ac_rfl, e2]; ac_rfl
  constructor
  · intro h
    have h3 : (u * q) * N < (p * l) * N := Int.mul_lt_mul_of_pos_right h N0
    rw [h1, h2] at h3
    exact Int.lt_of_mul_lt_mul_right h3 (Int.le_of_lt lq)
  · intro h
    have h3 : A * (l * q) < B * (l * q) := Int.mul_lt_mul_of_pos_right h lq
    rw [← h1, ← h2] at h3
    exact Int.lt_of_mul_lt_mul_right h3 (Int.le_of_lt N0)
theorem dvd_cop {a b c : Int} (g : Int.gcd a b = 1) (h : a ∣ b * c) : a ∣ c := by
  have h1 : a.natAbs ∣ b.natAbs * c.natAbs := by rw [← Int.natAbs_mul]; exact Int.natAbs_dvd_natAbs.mpr h
  exact Int.natAbs_dvd_natAbs.mp (Nat.Coprime.dvd_of_dvd_mul_left (k := a.natAbs) (m := b.natAbs) g h1)
end GB
namespace GB
open PySem PySem.Spec PyProof.Rows L2
/-! ### items of a row -/
inductive Itm where
  | line (xs : List Int) (s : Int)
  | wait (n : Int)
  | tool (up : Bool)
  | mark (z : Str)
def itT : Itm → T
  | .line xs s => lineT xs s
  | .wait n => .tup [.str "wait", .int n]
  | .tool b => .tup [.str "tool", .str (if b then "up" else "down")]
  | .mark z => .tup [.str "mark", .str z]
def isL : Itm → Bool
  | .line _ _ => true
  | _ => false
structure LnOk (ax : Nat) (xs : List Int) (s : Int) : Prop where
  len : xs.length = ax
  bnd : ∀ x ∈ xs, -100 ≤ x ∧ x ≤ 100
  nz : ∃ x ∈ xs, x ≠ 0
  s1 : 1 ≤ s
  s2 : s ≤ 20
def OkI (ax : Nat) : Itm → Prop
  | .line xs s => LnOk ax xs s
  | _ => True
theorem LnOk.bnd6 {ax : Nat} {xs : List Int} {s : Int} (o : LnOk ax xs s) : ∀ x ∈ xs, -1000000 ≤ x ∧ x ≤ 1000000 := fun x m => by have := o.bnd x m; omega
theorem LnOk.lead0 {ax : Nat} {xs : List Int} {s : Int} (o : LnOk ax xs s) : 1 ≤ lead xs := lead_pos o.nz
theorem LnOk.lead1 {ax : Nat} {xs : List Int} {s : Int} (o : LnOk ax xs s) : lead xs ≤ 100 := lead_le (by decide) o.bnd
theorem LnOk.ne {ax : Nat} {xs : List Int} {s : Int} (o : LnOk ax xs s) : xs ≠ [] := fun e => by subst e; obtain ⟨x, m, _⟩ := o.nz; exact absurd m (by simp)
/-- the kind of an item -/
theorem it_kind {h : IH} : ∀ i : Itm, ∃ k ts, itT i = .tup (.str k :: ts) ∧ gEq (.str k) (.str "line") h = some (.bl (isL i))
  | .line xs s => ⟨_, _, rfl, q_eqR (k := 0) (by decide) (by decide +kernel)⟩
  | .wait n => ⟨_, _, rfl, by
    show (if (SeqAt.shaped (.str "wait") && SeqAt.shaped (.str "line")) = true then some (T.bl (false ^^ PyData.eqv (.str "wait") (.str "line"))) else none) = some (T.bl false)
    rw [show (SeqAt.shaped (.str "wait") && SeqAt.shaped (.str "line")) = true by decide +kernel, if_pos rfl, show PyData.eqv (.str "wait") (.str "line") = false by decide +kernel]; rfl⟩
  | .tool b => ⟨_, _, rfl, by
    show (if (SeqAt.shaped (.str "tool") && SeqAt.shaped (.str "line")) = true then some (T.bl (false ^^ PyData.eqv (.str "tool") (.str "line"))) else none) = some (T.bl false)
    rw [show (SeqAt.shaped (.str "tool") && SeqAt.shaped (.str "line")) = true by decide +kernel, if_pos rfl, show PyData.eqv (.str "tool") (.str "line") = false by decide +kernel]; rfl⟩
  | .mark z => ⟨_, _, rfl, by
    show (if (SeqAt.shaped (.str "mark") && SeqAt.shaped (.str "line")) = true then some (T.bl (false ^^ PyData.eqv (.str "mark") (.str "line"))) else none) = some (T.bl false)
    rw [show (SeqAt.shaped (.str "mark") && SeqAt.shaped (.str "line")) = true by decide +kernel, if_pos rfl, show PyData.eqv (.str "mark") (.str "line") = false by decide +kernel]; rfl⟩
/-! ### bounds -/
def lowF (p q : Int) : Fr2 := (p / (Int.gcd p q : Int), q / (Int.gcd p q : Int))
theorem frt_low {p q : Int} : frt (lowF p q) = lowT p q := rfl
theorem lowF_ok {m p q : Int} (h : 0 < q) (h1 : -m ≤ p) (h2 : p ≤ m) (h3 : q ≤ m) : Fok m (lowF p q) := by
  obtain ⟨b1, b2⟩ := div_gcd_le h h1 h2
  have g0 := gcd_pos_of (p := p) h
  have b3 := Int.ediv_le_self (b := (Int.gcd p q : Int)) (a := q) (by omega)
  exact ⟨fq_of h, b1, b2, Int.le_trans b3 h3⟩
def nought : Fr2 := (0, 1)
theorem nought_ok : Fok (10 ^ 13) nought := ⟨⟨by decide, by decide⟩, by decide, by decide, by decide⟩
def topF (s rate : Int) : Fr2 := lowF ((s * rate) * (s * rate)) 10000
def corF (c : Int) (xs ys : List Int) : Option Fr2 := if lead (dif xs ys (lead xs) (lead ys)) = 0 then none else some (lowF ((c * lead xs * lead ys) * (c * lead xs * lead ys)) (lead (dif xs ys (lead xs) (lead ys)) * lead (dif xs ys (lead xs) (lead ys))))
def oT : Option Fr2 → T
  | none => .non
  | some f => frt f
def lesserF (f g : Fr2) : Fr2 := if g.1 * f.2 < f.1 * g.2 then g else f
theorem lesserF_ok {m : Int} {f g : Fr2} (a : Fok m f) (b : Fok m g) : Fok m (lesserF f g) := by unfold lesserF; split <;> assumption
theorem least2 {f g : Fr2} : leastF [f, g] f = lesserF f g := by
  show (if g.1 * (if f.1 * f.2 < f.1 * f.2 then f else f).2 < (if f.1 * f.2 < f.1 * f.2 then f else f).1 * g.2 then g else (if f.1 * f.2 < f.1 * f.2 then f else f)) = _
  rw [if_neg (Int.lt_irrefl _)]; rfl
theorem least3 {f g k : Fr2} : leastF [f, g, k] f = lesserF (lesserF f g) k := by
  have : leastF [f, g, k] f = lesserF (leastF [f, g] f) k := rfl
  rw [this, least2]
def ownF (c rate : Int) (a b : Itm) : Fr2 :=
  match a, b with
  | .line xs s, .line ys t => match corF c xs ys with
    | none => lesserF (topF s rate) (topF t rate)
    | some f => lesserF (lesserF (topF s rate) (topF t rate)) f
  | _, _ => nought
def ownsF (c rate : Int) : List Itm → List Fr2
  | [] => [nought]
  | i :: is => nought :: ((i :: is).zip is).map (fun p => ownF c rate p.1 p.2) ++ [nought]
theorem topF_ok {s rate : Int} (s1 : 1 ≤ s) (s2 : s ≤ 20) (r1 : 10 ≤ rate) (r2 : rate ≤ 200) : Fok (10 ^ 13) (topF s rate) := by
  have h1 : s * rate ≤ 20 * 200 := Int.mul_le_mul s2 r2 (by omega) (by decide)
  have h0 : 1 * 10 ≤ s * rate := Int.mul_le_mul s1 r1 (by decide) (by omega)
  have h2 : (s * rate) * (s * rate) ≤ 4000 * 4000 := Int.mul_le_mul h1 h1 (by omega) (by decide)
  have h3 : 0 ≤ (s * rate) * (s * rate) := Int.mul_nonneg (by omega) (by omega)
  exact lowF_ok (by decide) (by omega) (by omega) (by decide)
theorem dif_le {ax : Nat} {xs ys : List Int} {s t : Int} (a : LnOk ax xs s) (b : LnOk ax ys t) : lead (dif xs ys (lead xs) (lead ys)) ≤ 20000 := by
  refine lead_le (by decide) fun d md => ?_
  obtain ⟨p, mp, rfl⟩ := List.mem_map.mp md
  have m1 := a.bnd _ (List.of_mem_zip mp).1
  have m2 := b.bnd _ (List.of_mem_zip mp).2
  have L0 := a.lead0
  have L1 := a.lead1
  have M0 := b.lead0
  have M1 := b.lead1
  have h1 := mul_box (k := lead ys) (x := p.1) (by omega) M1 m1.1 m1.2
  have h2 := mul_box (k := lead xs) (x := p.2) (by omega) L1 m2.1 m2.2
  rw [Int.mul_comm (lead ys)] at h1
  rw [Int.mul_comm (lead xs)] at h2
  omega
theorem corF_ok {ax : Nat} {c : Int} {xs ys : List Int} {s t : Int} {f : Fr2} (c0 : 1 ≤ c) (c1 : c ≤ 50) (a : LnOk ax xs s) (b : LnOk ax ys t) (e : corF c xs ys = some f) : Fok (10 ^ 13) f := by
  unfold corF at e
  split at e
  · cases e
  · rename_i z
    cases e
    have dp := lead_nonneg (xs := dif xs ys (lead xs) (lead ys))
    have dl := dif_le a b
    have L0 := a.lead0
    have L1 := a.lead1
    have M0 := b.lead0
    have M1 := b.lead1
    have cl : c * lead xs ≤ 50 * 100 := Int.mul_le_mul c1 L1 (by omega) (by decide)
    have cl0 : 1 * 1 ≤ c * lead xs := Int.mul_le_mul c0 L0 (by decide) (by omega)
    have cm : c * lead xs * lead ys ≤ 50 * 100 * 100 := Int.mul_le_mul cl M1 (by omega) (by decide)
    have cm0 : 1 * 1 * 1 ≤ c * lead xs * lead ys := Int.mul_le_mul cl0 M0 (by decide) (by omega)
    have c2 : (c * lead xs * lead ys) * (c * lead xs * lead ys) ≤ (50 * 100 * 100) * (50 * 100 * 100) := Int.mul_le_mul cm cm (by omega) (by decide)
    have c3 : 0 ≤ (c * lead xs * lead ys) * (c * lead xs * lead ys) := Int.mul_nonneg (by omega) (by omega)
    have hh : lead (dif xs ys (lead xs) (lead ys)) * lead (dif xs ys (lead xs) (lead ys)) ≤ 20000 * 20000 := Int.mul_le_mul dl dl dp (by decide)
    have hh0 : 1 * 1 ≤ lead (dif xs ys (lead xs) (lead ys)) * lead (dif xs ys (lead xs) (lead ys)) := Int.mul_le_mul (by omega) (by omega) (by decide) (by omega)
    exact lowF_ok (by omega) (by omega) (by omega) (by omega)
theorem ownF_ok {ax : Nat} {c rate : Int} {a b : Itm} (c0 : 1 ≤ c) (c1 : c ≤ 50) (r1 : 10 ≤ rate) (r2 : rate ≤ 200) (ha : OkI ax a) (hb : OkI ax b) : Fok (10 ^ 13) (ownF c rate a b) := by
  unfold ownF
  split
  · rename_i xs s ys t
    have ta := topF_ok ha.s1 ha.s2 r1 r2
    have tb := topF_ok hb.s1 hb.s2 r1 r2
    split
    · exact lesserF_ok ta tb
    · rename_i f e
      exact lesserF_ok (lesserF_ok ta tb) (corF_ok c0 c1 ha hb e)
  · exact nought_ok
theorem ownsF_ok {ax : Nat} {c rate : Int} {is : List Itm} (c0 : 1 ≤ c) (c1 : c ≤ 50) (r1 : 10 ≤ rate) (r2 : rate ≤ 200) (h : ∀ i ∈ is, OkI ax i) : ∀ f ∈ ownsF c rate is, Fok (10 ^ 13) f := by
  cases is with
  | nil => intro f m; rw [List.mem_singleton.mp m]; exact nought_ok
  | cons i is =>
    intro f m
    rcases List.mem_append.mp m with m | m
    · rcases List.mem_cons.mp m with e | m
      · rw [e]; exact nought_ok
      · obtain ⟨p, mp, rfl⟩ := List.mem_map.mp m
        have := List.of_mem_zip mp
        exact ownF_ok c0 c1 r1 r2 (h _ this.1) (h _ (List.mem_cons_of_mem _ this.2))
    · rw [List.mem_singleton.mp m]; exact nought_ok
theorem ownsF_len {c rate : Int} {is : List Itm} : (ownsF c rate is).length = is.length + 1 := by
  cases is with
  | nil => rfl
  | cons i is => simp [ownsF, List.length_zip]
def itL (is : List Itm) : List T := is.map itT
theorem q_ixS {z : Str} {i : Int} {h : IH} : gIx (.str z) (.int i) h = if z.length ≤ sizeLine then (atI z.cps.toList i).map (fun c => T.str ⟨#[c]⟩) else none := rfl
theorem all2_signs {ts ys : List T} (h : All2 (fun _ y => ∃ c, y = T.str ⟨#[c]⟩) ts ys) : ∃ zs : List Str, strsL ys = some zs ∧ zs.length = ts.length ∧ (zs.map (·.length)).sum = zs.length := by
  induction h with
  | nil => exact ⟨[], rfl, rfl, rfl⟩
  | cons q _ ih =>
    obtain ⟨c, rfl⟩ := q
    obtain ⟨zs, h1, h2, h3⟩ := ih
    refine ⟨⟨#[c]⟩ :: zs, ?_, by simp [h2], ?_⟩
    · show (strsL _).map (_ :: ·) = _
      rw [h1]; rfl
    · rw [List.map_cons, List.sum_cons, h3, List.length_cons]
      show 1 + zs.length = zs.length + 1
      omega
theorem q_join {ts : List T} {zs : List Str} {h : IH} (e : strsL ts = some zs) (b : (zs.map (·.length)).sum ≤ 16777216) : gJoin (.str "") (.lst ts) h = some (.str (Txt.join "" zs)) := by
  show ((some ts).bind strsL).bind (fun ys => if (ys.map (·.length)).sum + ys.length * ("" : Str).length ≤ 16777216 then some (T.str (Txt.join "" ys)) else none) = _
  show (strsL ts).bind _ = _
  rw [e]
  show (if (zs.map (·.length)).sum + zs.length * ("" : Str).length ≤ 16777216 then some (T.str (Txt.join "" zs)) else none) = _
  rw [if_pos (by rw [show ("" : Str).length = 0 from rfl, Nat.mul_zero]; omega)]
/-- the leads of a row's lines together -/
def totL : List Itm → Int
  | [] => 0
  | .line xs _ :: is => lead xs + totL is
  | _ :: is => totL is
theorem totL_app {is : List Itm} {i : Itm} : totL (is ++ [i]) = totL is + totL [i] := by
  induction is with
  | nil => show totL [i] = 0 + totL [i]; omega
  | cons j is ih =>
    cases j with
    | line xs s => show lead xs + totL (is ++ [i]) = lead xs + totL is + totL [i]; rw [ih]; omega
    | _ => exact ih
theorem totL_nonneg : ∀ {is : List Itm}, 0 ≤ totL is
  | [] => Int.le_refl _
  | .line xs _ :: is => by
    have := totL_nonneg (is := is)
    have := lead_nonneg (xs := xs)
    show 0 ≤ lead xs + totL is
    omega
  | .wait _ :: is => totL_nonneg (is := is)
  | .tool _ :: is => totL_nonneg (is := is)
  | .mark _ :: is => totL_nonneg (is := is)
theorem itL_len {is : List Itm} : (itL is).length = is.length := by simp [itL]
/-- what is due of a corner -/
def corT (c : Int) (xs ys : List Int) : T := if lead (dif xs ys (lead xs) (lead ys)) = 0 then .non else lowT ((c * lead xs * lead ys) * (c * lead xs * lead ys)) (lead (dif xs ys (lead xs) (lead ys)) * lead (dif xs ys (lead xs) (lead ys)))
theorem dif_bnd {xs ys : List Int} {L M : Int} (L0 : 0 ≤ L) (L1 : L ≤ 1000000) (M0 : 0 ≤ M) (M1 : M ≤ 1000000) (bx : ∀ x ∈ xs, -1000000 ≤ x ∧ x ≤ 1000000) (by' : ∀ x ∈ ys, -1000000 ≤ x ∧ x ≤ 1000000) : lead (dif xs ys L M) ≤ 2000000000000 := by
  refine lead_le (by decide) fun d md => ?_
  obtain ⟨p, mp, rfl⟩ := List.mem_map.mp md
  have m1 := bx _ (List.of_mem_zip mp).1
  have m2 := by' _ (List.of_mem_zip mp).2
  have h1 := mul_box M0 M1 m1.1 m1.2
  have h2 := mul_box L0 L1 m2.1 m2.2
  rw [Int.mul_comm M] at h1
  rw [Int.mul_comm L] at h2
  omega
theorem dif_swap {L M : Int} : ∀ {xs ys : List Int}, lead (dif xs ys L M) = lead (dif ys xs M L)
  | [], ys => by unfold dif; cases ys <;> rfl
  | x :: xs, [] => by unfold dif; rfl
  | x :: xs, y :: ys => by
    show lead ((x * M - y * L) :: dif xs ys L M) = lead ((y * L - x * M) :: dif ys xs M L)
    rw [lead_cons, lead_cons, dif_swap (xs := xs) (ys := ys)]
    omega
theorem corT_swap {c : Int} {xs ys : List Int} : corT c xs ys = corT c ys xs := by
  unfold corT
  rw [dif_swap, show c * lead xs * lead ys = c * lead ys * lead xs by ac_rfl]
theorem corT_F {c : Int} {xs ys : List Int} : corT c xs ys = oT (corF c xs ys) := by
  unfold corT corF
  split <;> rfl
theorem q_lnL {h : IH} : gEq (.str "line") (.str "line") h = some (.bl true) := q_eqR (k := 0) (by decide) (by decide +kernel)
theorem q_cat {a b : List T} {h : IH} : gCat (.lst a) (.lst b) h = if a.length + b.length ≤ sizeLine then some (.lst (a ++ b)) else none := rfl
theorem frL_len {fs : List Fr2} : (frL fs).length = fs.length := by simp [frL]
/-- the own bound of border j -/
def ownAt (c rate : Int) (is : List Itm) (j : Nat) : Fr2 :=
  match j with
  | 0 => nought
  | j + 1 => match is[j]?, is[j + 1]? with
    | some a, some b => ownF c rate a b
    | _, _ => nought
theorem ownsF_at {c rate : Int} {is : List Itm} : ownsF c rate is = (List.range (is.length + 1)).map (ownAt c rate is) := by
  refine List.ext_getElem? fun j => ?_
  rw [List.getElem?_map]
  cases is with
  | nil =>
    cases j with
    | zero => rfl
    | succ j => rw [List.getElem?_eq_none (by simp [ownsF]), List.getElem?_eq_none (by simp)]; rfl
  | cons i is =>
    by_cases hj : j < (i :: is).length + 1
    · rw [List.getElem?_range hj]
      cases j with
      | zero => rfl
      | succ j =>
        show (((i :: is).zip is).map (fun p => ownF c rate p.1 p.2) ++ [nought])[j]? = some (match (i :: is)[j]?, (i :: is)[j + 1]? with | some a, some b => ownF c rate a b | _, _ => nought)
        have lz : (((i :: is).zip is).map (fun p => ownF c rate p.1 p.2)).length = is.length := by simp [List.length_zip]
        by_cases hm : j < is.length
        · have hj2 : j < (i :: is).length := by rw [List.length_cons]; omega
          have z1 : ((i :: is).zip is)[j]? = some ((i :: is)[j], is[j]) := List.getElem?_zip_eq_some.mpr ⟨List.getElem?_eq_getElem hj2, List.getElem?_eq_getElem hm⟩
          rw [List.getElem?_append_left (by rw [lz]; exact hm), List.getElem?_map, z1]
          rw [List.getElem?_eq_getElem hj2, List.getElem?_cons_succ, List.getElem?_eq_getElem hm]
          rfl
        · have e : j = is.length := by simp at hj; omega
          rw [List.getElem?_append_right (by rw [lz]; omega), lz, e, Nat.sub_self]
          rw [List.getElem?_eq_none (l := i :: is) (i := is.length + 1) (by simp)]
          cases (i :: is)[is.length]? <;> rfl
    · rw [List.getElem?_eq_none (by rw [ownsF_len]; omega), List.getElem?_eq_none (by simp; simp at hj; omega)]; rfl
end GB
namespace GB
open PySem PySem.Spec PyProof.Rows L2
/-! ### plans -/
def chg (v : Int) : Itm → Int
  | .line xs _ => 2 * v * lead xs
  | _ => 0
def plusK (f : Fr2) (k : Int) : Fr2 := (f.1 + k * f.2, f.2)
/-- a square as it comes up in a plan: not below 0, its numbers bounded -/
structure Bd (n : Nat) (f : Fr2) : Prop where
  fq : Fq f.1 f.2
  lo : 0 ≤ f.1
  hi : f.1 ≤ ((n : Int) + 1) * 10 ^ 18
  qm : f.2 ≤ 10 ^ 13
theorem Bd.mono {n m : Nat} {f : Fr2} (b : Bd n f) (h : n ≤ m) : Bd m f := ⟨b.fq, b.lo, by
  have := b.hi
  have : ((n : Int) + 1) * 10 ^ 18 ≤ ((m : Int) + 1) * 10 ^ 18 := Int.mul_le_mul_of_nonneg_right (by omega) (by decide)
  omega, b.qm⟩
theorem Bd.ok {n : Nat} {f : Fr2} (b : Bd n f) (h : n ≤ 1000000) : Fok (10 ^ 50) f := ⟨b.fq, by have := b.lo; omega, by
  have := b.hi
  have : ((n : Int) + 1) * 10 ^ 18 ≤ 1000001 * 10 ^ 18 := Int.mul_le_mul_of_nonneg_right (by omega) (by decide)
  omega, by have := b.qm; omega⟩
theorem Bd.of {f : Fr2} (k : Fok (10 ^ 13) f) (h : 0 ≤ f.1) : Bd 0 f := ⟨k.fq, h, by have := k.hi; omega, k.qm⟩
theorem lesserF_bd {n : Nat} {f g : Fr2} (a : Bd n f) (b : Bd n g) : Bd n (lesserF f g) := by unfold lesserF; split <;> assumption
theorem plusK_bd {n : Nat} {f : Fr2} {k : Int} (b : Bd n f) (k0 : 0 ≤ k) (k1 : k ≤ 10000) : Bd (n + 1) (plusK f k) := by
  have q0 := b.fq.pos
  have kq : k * f.2 ≤ 10000 * 10 ^ 13 := Int.mul_le_mul k1 b.qm (by omega) (by decide)
  have kq0 : 0 ≤ k * f.2 := Int.mul_nonneg k0 (by omega)
  refine ⟨⟨q0, ?_⟩, ?_, ?_, b.qm⟩
  · show Int.gcd (f.1 + k * f.2) f.2 = 1
    rw [Int.gcd_add_mul_right_left]; exact b.fq.one
  · show 0 ≤ f.1 + k * f.2
    have := b.lo; omega
  · show f.1 + k * f.2 ≤ _
    have := b.hi
    have e : (((n + 1 : Nat) : Int) + 1) * 10 ^ 18 = ((n : Int) + 1) * 10 ^ 18 + 10 ^ 18 := by
      rw [show ((n + 1 : Nat) : Int) = (n : Int) + 1 by omega, Int.add_mul ((n : Int) + 1) 1]
      omega
    rw [e]
    omega
theorem plusK_low {f : Fr2} {k : Int} (q : Fq f.1 f.2) : lowT (f.1 * 1 + k * f.2) (f.2 * 1) = frt (plusK f k) := by
  rw [Int.mul_one, Int.mul_one]
  exact (Fq.low (p := f.1 + k * f.2) (q := f.2) ⟨q.pos, by rw [Int.gcd_add_mul_right_left]; exact q.one⟩)
def stepF (v : Int) (prev : Fr2) (i : Itm) (s : Fr2) : Fr2 := if isL i = true then lesserF s (plusK prev (chg v i)) else s
def walkF (v : Int) : Fr2 → List Itm → List Fr2 → List Fr2
  | prev, i :: is, s :: ss => stepF v prev i s :: walkF v (stepF v prev i s) is ss
  | _, _, _ => []
def risenF (v : Int) (is : List Itm) : List Fr2 → List Fr2
  | [] => []
  | s :: ss => s :: walkF v s is ss
def fallenF (v : Int) (is : List Itm) (ss : List Fr2) : List Fr2 := (risenF v is.reverse ss.reverse).reverse
def planF (r f c rate : Int) (is : List Itm) : List Fr2 := fallenF f is (risenF r is (ownsF c rate is))
theorem chg_le {ax : Nat} {v : Int} {i : Itm} (v0 : 1 ≤ v) (v1 : v ≤ 50) (o : OkI ax i) : 0 ≤ chg v i ∧ chg v i ≤ 10000 := by
  cases i with
  | line xs s =>
    have lo : LnOk ax xs s := o
    have h1 : 2 * v * lead xs ≤ 2 * 50 * 100 := Int.mul_le_mul (by omega) lo.lead1 (by have := lo.lead0; omega) (by decide)
    have h0 : 0 ≤ 2 * v * lead xs := Int.mul_nonneg (by omega) (by have := lo.lead0; omega)
    exact ⟨h0, h1⟩
  | _ => exact ⟨Int.le_refl _, by show (0 : Int) ≤ 10000; decide⟩
theorem stepF_bd {ax n : Nat} {v : Int} {prev s : Fr2} {i : Itm} (v0 : 1 ≤ v) (v1 : v ≤ 50) (o : OkI ax i) (a : Bd n prev) (b : Bd n s) : Bd (n + 1) (stepF v prev i s) := by
  unfold stepF
  have := chg_le v0 v1 o
  split
  · exact lesserF_bd (b.mono (by omega)) (plusK_bd a this.1 this.2)
  · exact b.mono (by omega)
theorem walkF_len {v : Int} : ∀ (is : List Itm) (ss : List Fr2) (p : Fr2), is.length = ss.length → (walkF v p is ss).length = ss.length
  | [], [], _, _ => rfl
  | [], _ :: _, _, e => by cases e
  | _ :: _, [], _, e => by cases e
  | i :: is, s :: ss, p, e => by
    show (walkF v (stepF v p i s) is ss).length + 1 = ss.length + 1
    rw [walkF_len is ss _ (by simpa using e)]
theorem walkF_bd {ax : Nat} {v : Int} (v0 : 1 ≤ v) (v1 : v ≤ 50) : ∀ (is : List Itm) (ss : List Fr2) (p : Fr2) (n m : Nat), (∀ i ∈ is, OkI ax i) → Bd n p → (∀ s ∈ ss, Bd n s) → n + ss.length ≤ m → ∀ x ∈ walkF v p is ss, Bd m x
  | [], _, _, _, _, _, _, _, _, x, mx => by simp [walkF] at mx
  | _ :: _, [], _, _, _, _, _, _, _, x, mx => by simp [walkF] at mx
  | i :: is, s :: ss, p, n, m, ok, bp, bs, hm, x, mx => by
    have st := stepF_bd v0 v1 (ok i List.mem_cons_self) bp (bs s List.mem_cons_self)
    rw [List.length_cons] at hm
    rcases List.mem_cons.mp (show x ∈ stepF v p i s :: walkF v (stepF v p i s) is ss from mx) with e | mx
    · rw [e]; exact st.mono (by omega)
    · exact walkF_bd v0 v1 is ss _ (n + 1) m (fun j mj => ok j (List.mem_cons_of_mem _ mj)) st (fun y my => (bs y (List.mem_cons_of_mem _ my)).mono (by omega)) (by omega) x mx
theorem risenF_len {v : Int} {is : List Itm} {ss : List Fr2} (h : ss.length = is.length + 1) : (risenF v is ss).length = ss.length := by
  cases ss with
  | nil => cases h
  | cons s ss =>
    show (walkF v s is ss).length + 1 = ss.length + 1
    rw [walkF_len is ss s (by simp at h; omega)]
theorem risenF_bd {ax : Nat} {v : Int} {is : List Itm} {ss : List Fr2} {n m : Nat} (v0 : 1 ≤ v) (v1 : v ≤ 50) (ok : ∀ i ∈ is, OkI ax i) (b : ∀ s ∈ ss, Bd n s) (hm : n + ss.length ≤ m) : ∀ x ∈ risenF v is ss, Bd m x := by
  cases ss with
  | nil => intro x mx; cases mx
  | cons s ss =>
    rw [List.length_cons] at hm
    intro x mx
    rcases List.mem_cons.mp (show x ∈ s :: walkF v s is ss from mx) with e | mx
    · rw [e]; exact (b s List.mem_cons_self).mono (by omega)
    · exact walkF_bd v0 v1 is ss s n m ok (b s List.mem_cons_self) (fun y my => b y (List.mem_cons_of_mem _ my)) (by omega) x mx
theorem fallenF_len {v : Int} {is : List Itm} {ss : List Fr2} (h : ss.length = is.length + 1) : (fallenF v is ss).length = ss.length := by
  unfold fallenF
  rw [List.length_reverse, risenF_len (by simpa using h), List.length_reverse]
theorem fallenF_bd {ax : Nat} {v : Int} {is : List Itm} {ss : List Fr2} {n m : Nat} (v0 : 1 ≤ v) (v1 : v ≤ 50) (ok : ∀ i ∈ is, OkI ax i) (b : ∀ s ∈ ss, Bd n s) (hm : n + ss.length ≤ m) : ∀ x ∈ fallenF v is ss, Bd m x := fun x mx =>
  risenF_bd v0 v1 (fun i mi => ok i (List.mem_reverse.mp mi)) (fun s ms => b s (List.mem_reverse.mp ms)) (by rw [List.length_reverse]; exact hm) x (List.mem_reverse.mp mx)
theorem lowF_nn {p q : Int} (h : 0 ≤ p) : 0 ≤ (lowF p q).1 := Int.ediv_nonneg h (Int.natCast_nonneg _)
theorem lesserF_nn {f g : Fr2} (a : 0 ≤ f.1) (b : 0 ≤ g.1) : 0 ≤ (lesserF f g).1 := by unfold lesserF; split <;> assumption
theorem topF_nn {s r : Int} : 0 ≤ (topF s r).1 := lowF_nn (by
  rcases Int.le_total 0 (s * r) with h | h
  · exact Int.mul_nonneg h h
  · exact Int.mul_nonneg_of_nonpos_of_nonpos h h)
theorem sq_nn {a : Int} : 0 ≤ a * a := by
  rcases Int.le_total 0 a with h | h
  · exact Int.mul_nonneg h h
  · exact Int.mul_nonneg_of_nonpos_of_nonpos h h
theorem ownF_nn {c rate : Int} {a b : Itm} : 0 ≤ (ownF c rate a b).1 := by
  unfold ownF
  split
  · split
    · exact lesserF_nn topF_nn topF_nn
    · rename_i f e
      refine lesserF_nn (lesserF_nn topF_nn topF_nn) ?_
      unfold corF at e
      split at e
      · cases e
      · cases e; exact lowF_nn sq_nn
  · exact Int.le_refl _
theorem ownsF_bd {ax : Nat} {c rate : Int} {is : List Itm} (c0 : 1 ≤ c) (c1 : c ≤ 50) (r1 : 10 ≤ rate) (r2 : rate ≤ 200) (ok : ∀ i ∈ is, OkI ax i) : ∀ f ∈ ownsF c rate is, Bd 0 f := fun f mf => by
  refine Bd.of (ownsF_ok c0 c1 r1 r2 ok f mf) ?_
  rw [ownsF_at] at mf
  obtain ⟨j, mj, rfl⟩ := List.mem_map.mp mf
  cases j with
  | zero => exact Int.le_refl _
  | succ j =>
    show 0 ≤ (match is[j]?, is[j + 1]? with | some a, some b => ownF c rate a b | _, _ => nought).1
    split
    · exact ownF_nn
    · exact Int.le_refl _
theorem planF_len {r f c rate : Int} {is : List Itm} : (planF r f c rate is).length = is.length + 1 := by
  unfold planF
  rw [fallenF_len (by rw [risenF_len ownsF_len, ownsF_len]), risenF_len ownsF_len, ownsF_len]
theorem planF_bd {ax : Nat} {r f c rate : Int} {is : List Itm} {m : Nat} (a0 : 1 ≤ r) (a1 : r ≤ 50) (b0 : 1 ≤ f) (b1 : f ≤ 50) (c0 : 1 ≤ c) (c1 : c ≤ 50) (r1 : 10 ≤ rate) (r2 : rate ≤ 200) (ok : ∀ i ∈ is, OkI ax i) (hm : 2 * is.length + 2 ≤ m) : ∀ x ∈ planF r f c rate is, Bd m x :=
  fallenF_bd b0 b1 ok (risenF_bd a0 a1 ok (ownsF_bd c0 c1 r1 r2 ok) (m := is.length + 1) (by rw [ownsF_len]; omega)) (by rw [risenF_len ownsF_len, ownsF_len]; omega)
/-! lists cut at their ends -/
theorem cut_last {α : Type} {xs : List α} {x : α} : cutL (xs ++ [x]) (some (-1)) none = [x] := by
  unfold cutL
  rw [HT.sIx_none]
  have e : HT.sIx (xs ++ [x]).length 0 (some (-1)) = xs.length := by
    show (if (-1 : Int) < 0 then ((-1 : Int) + ((xs ++ [x]).length : Int)).toNat else min ((-1 : Int)).toNat (xs ++ [x]).length) = _
    rw [if_pos (by decide), List.length_append]
    simp
    omega
  rw [e, List.drop_left, List.take_of_length_le (by simp)]
theorem rev_from2 {α : Type} {xs : List α} {x : α} : ((xs ++ [x]).take (revTop (xs ++ [x]).length (some (-2)))).reverse = xs.reverse := by
  have e : revTop (xs ++ [x]).length (some (-2)) = xs.length := by
    show (if (-2 : Int) < 0 then ((-2 : Int) + ((xs ++ [x]).length : Int) + 1).toNat else min (((-2 : Int)).toNat + 1) (xs ++ [x]).length) = _
    rw [if_pos (by decide), List.length_append]
    simp
    omega
  rw [e, List.take_left]
theorem rev_all {α : Type} {xs : List α} : (xs.take (revTop xs.length none)).reverse = xs.reverse := by
  show (xs.take xs.length).reverse = _
  rw [List.take_length]
theorem q_revL {ts : List T} {lo : Option Int} {h : IH} : gRevL (.lst ts) lo h = some (.lst (ts.take (revTop ts.length lo)).reverse) := rfl
theorem q_revT {ts : List T} {h : IH} : gRevT (.tup ts) none h = some (.tup ts.reverse) := rfl
end GB
namespace GB
open PySem PySem.Spec PyProof.Rows L2
/-! ### the order of fractions -/
def leF (f g : Fr2) : Prop := f.1 * g.2 ≤ g.1 * f.2
theorem leF_refl (f : Fr2) : leF f f := Int.le_refl _
theorem leF_trans {f g k : Fr2} (q0 : 0 < f.2) (q : 0 < g.2) (r : 0 < k.2) (a : leF f g) (b : leF g k) : leF f k := by
  unfold leF at *
  have h1 : f.1 * g.2 * k.2 ≤ g.1 * f.2 * k.2 := Int.mul_le_mul_of_nonneg_right a (Int.le_of_lt r)
  have h2 : g.1 * k.2 * f.2 ≤ k.1 * g.2 * f.2 := Int.mul_le_mul_of_nonneg_right b (Int.le_of_lt q0)
  have h3 : f.1 * k.2 * g.2 ≤ k.1 * f.2 * g.2 := by
    rw [show f.1 * k.2 * g.2 = f.1 * g.2 * k.2 by ac_rfl, show k.1 * f.2 * g.2 = k.1 * g.2 * f.2 by ac_rfl]
    refine Int.le_trans h1 ?_
    rw [show g.1 * f.2 * k.2 = g.1 * k.2 * f.2 by ac_rfl]
    exact h2
  exact Int.le_of_mul_le_mul_right h3 q
theorem not_lt_of_leF {f g : Fr2} (a : leF f g) : ¬ (g.1 * f.2 < f.1 * g.2) := Int.not_lt.mpr a
theorem lesserF_le_left {f g : Fr2} : leF (lesserF f g) f := by
  unfold lesserF leF
  split
  · rename_i h; exact Int.le_of_lt h
  · exact Int.le_refl _
theorem lesserF_le_right {f g : Fr2} : leF (lesserF f g) g := by
  unfold lesserF leF
  split
  · exact Int.le_refl _
  · rename_i h; omega
theorem le_lesserF {f g k : Fr2} (a : leF k f) (b : leF k g) : leF k (lesserF f g) := by unfold lesserF; split <;> assumption
theorem lesserF_pos {f g : Fr2} (a : 0 < f.2) (b : 0 < g.2) : 0 < (lesserF f g).2 := by unfold lesserF; split <;> assumption
theorem lesserF_mono {f g f' g' : Fr2} (p1 : 0 < f.2) (p2 : 0 < g.2) (p3 : 0 < f'.2) (p4 : 0 < g'.2) (a : leF f f') (b : leF g g') : leF (lesserF f g) (lesserF f' g') :=
  le_lesserF (leF_trans (lesserF_pos p1 p2) p1 p3 lesserF_le_left a) (leF_trans (lesserF_pos p1 p2) p2 p4 lesserF_le_right b)
theorem plusK_mono {f g : Fr2} {k l : Int} (p1 : 0 < f.2) (p2 : 0 < g.2) (a : leF f g) (h : k ≤ l) : leF (plusK f k) (plusK g l) := by
  unfold leF plusK at *
  show (f.1 + k * f.2) * g.2 ≤ (g.1 + l * g.2) * f.2
  rw [Int.add_mul, Int.add_mul]
  have : k * (f.2 * g.2) ≤ l * (f.2 * g.2) := Int.mul_le_mul_of_nonneg_right h (Int.le_of_lt (Int.mul_pos p1 p2))
  rw [show k * f.2 * g.2 = k * (f.2 * g.2) by ac_rfl, show l * g.2 * f.2 = l * (f.2 * g.2) by ac_rfl]
  omega
theorem stepF_pos {v : Int} {p s : Fr2} {i : Itm} (a : 0 < p.2) (b : 0 < s.2) : 0 < (stepF v p i s).2 := by
  unfold stepF
  split
  · exact lesserF_pos b a
  · exact b
/-- the same item, no slower: no lower squares -/
def leI (v v' : Int) (i j : Itm) : Prop := isL i = isL j ∧ chg v i ≤ chg v' j
theorem stepF_mono {v v' : Int} {p p' s s' : Fr2} {i j : Itm} (c : leI v v' i j) (p1 : 0 < p.2) (p2 : 0 < p'.2) (p3 : 0 < s.2) (p4 : 0 < s'.2) (a : leF p p') (b : leF s s') : leF (stepF v p i s) (stepF v' p' j s') := by
  unfold stepF
  rw [c.1]
  split
  · exact lesserF_mono p3 (show 0 < (plusK p _).2 from p1) p4 (show 0 < (plusK p' _).2 from p2) b (plusK_mono p1 p2 a c.2)
  · exact b
theorem walkF_mono {v v' : Int} {is js : List Itm} {ss ss' : List Fr2} (hi : All2 (leI v v') is js) (hs : All2 (fun s s' => leF s s' ∧ 0 < s.2 ∧ 0 < s'.2) ss ss') {p p' : Fr2} (p1 : 0 < p.2) (p2 : 0 < p'.2) (a : leF p p') :
    All2 (fun s s' => leF s s' ∧ 0 < s.2 ∧ 0 < s'.2) (walkF v p is ss) (walkF v' p' js ss') := by
  induction hi generalizing ss ss' p p' with
  | nil => exact .nil
  | cons c _ ih =>
    cases hs with
    | nil => exact .nil
    | cons q hs =>
      have st := stepF_mono c p1 p2 q.2.1 q.2.2 a q.1
      exact .cons ⟨st, stepF_pos p1 q.2.1, stepF_pos p2 q.2.2⟩ (ih hs (stepF_pos p1 q.2.1) (stepF_pos p2 q.2.2) st)
theorem risenF_mono {v v' : Int} {is js : List Itm} {ss ss' : List Fr2} (hi : All2 (leI v v') is js) (hs : All2 (fun s s' => leF s s' ∧ 0 < s.2 ∧ 0 < s'.2) ss ss') :
    All2 (fun s s' => leF s s' ∧ 0 < s.2 ∧ 0 < s'.2) (risenF v is ss) (risenF v' js ss') := by
  cases hs with
  | nil => exact .nil
  | cons q hs => exact .cons q (walkF_mono hi hs q.2.1 q.2.2 q.1)
theorem All2.append {α β : Type} {S : α → β → Prop} {l l' : List α} {m m' : List β} (h : All2 S l m) (h' : All2 S l' m') : All2 S (l ++ l') (m ++ m') := by
  induction h with
  | nil => exact h'
  | cons q _ ih => exact .cons q ih
theorem All2.reverse {α β : Type} {S : α → β → Prop} {l : List α} {m : List β} (h : All2 S l m) : All2 S l.reverse m.reverse := by
  induction h with
  | nil => exact .nil
  | cons q _ ih => rw [List.reverse_cons, List.reverse_cons]; exact ih.append (.cons q .nil)
theorem fallenF_mono {v v' : Int} {is js : List Itm} {ss ss' : List Fr2} (hi : All2 (leI v v') is js) (hs : All2 (fun s s' => leF s s' ∧ 0 < s.2 ∧ 0 < s'.2) ss ss') :
    All2 (fun s s' => leF s s' ∧ 0 < s.2 ∧ 0 < s'.2) (fallenF v is ss) (fallenF v' js ss') := (risenF_mono hi.reverse hs.reverse).reverse
theorem lowF_le {p q p' q' : Int} (h : 0 < q) (h' : 0 < q') (a : p * q' ≤ p' * q) : leF (lowF p q) (lowF p' q') := by
  have g0 := gcd_pos_of (p := p) h
  have g1 := gcd_pos_of (p := p') h'
  obtain ⟨x, ex⟩ := Int.gcd_dvd_left p q
  obtain ⟨y, ey⟩ := Int.gcd_dvd_right p q
  obtain ⟨x', ex'⟩ := Int.gcd_dvd_left p' q'
  obtain ⟨y', ey'⟩ := Int.gcd_dvd_right p' q'
  unfold leF lowF
  generalize (Int.gcd p q : Int) = g at *
  generalize (Int.gcd p' q' : Int) = k at *
  have e1 : p / g = x := by rw [ex]; exact Int.mul_ediv_cancel_left _ (by omega)
  have e2 : q / g = y := by rw [ey]; exact Int.mul_ediv_cancel_left _ (by omega)
  have e3 : p' / k = x' := by rw [ex']; exact Int.mul_ediv_cancel_left _ (by omega)
  have e4 : q' / k = y' := by rw [ey']; exact Int.mul_ediv_cancel_left _ (by omega)
  show p / g * (q' / k) ≤ p' / k * (q / g)
  rw [e1, e2, e3, e4]
  have h1 : (x * y') * (g * k) ≤ (x' * y) * (g * k) := by
    rw [show (x * y') * (g * k) = (g * x) * (k * y') by ac_rfl, show (x' * y) * (g * k) = (k * x') * (g * y) by ac_rfl, ← ex, ← ey', ← ex', ← ey]
    exact a
  exact Int.le_of_mul_le_mul_right h1 (Int.mul_pos g0 g1)
theorem lowF_pos {p q : Int} (h : 0 < q) : 0 < (lowF p q).2 := (fq_of (p := p) h).pos
theorem sq_mono {a b : Int} (h0 : 0 ≤ a) (h : a ≤ b) : a * a ≤ b * b := Int.mul_le_mul h h h0 (by omega)
theorem topF_pos {s r : Int} : 0 < (topF s r).2 := lowF_pos (by decide)
theorem topF_mono {s s' r r' : Int} (s0 : 0 ≤ s) (r0 : 0 ≤ r) (hs : s ≤ s') (hr : r ≤ r') : leF (topF s r) (topF s' r') := by
  refine lowF_le (by decide) (by decide) ?_
  have h1 : s * r ≤ s' * r' := Int.mul_le_mul hs hr r0 (by omega)
  have h2 := sq_mono (Int.mul_nonneg s0 r0) h1
  omega
theorem corF_pos {c : Int} {xs ys : List Int} {f : Fr2} (e : corF c xs ys = some f) : 0 < f.2 := by
  unfold corF at e
  split at e
  · cases e
  · rename_i z
    cases e
    have dp := lead_nonneg (xs := dif xs ys (lead xs) (lead ys))
    exact lowF_pos (Int.mul_pos (by omega) (by omega))
theorem corF_mono {c c' : Int} {xs ys : List Int} {f f' : Fr2} (c0 : 0 ≤ c) (h : c ≤ c') (e : corF c xs ys = some f) (e' : corF c' xs ys = some f') : leF f f' := by
  unfold corF at e e'
  split at e
  · cases e
  · rename_i z
    rw [if_neg z] at e'
    cases e
    cases e'
    have dp := lead_nonneg (xs := dif xs ys (lead xs) (lead ys))
    have L0 := lead_nonneg (xs := xs)
    have M0 := lead_nonneg (xs := ys)
    have hp : 0 < lead (dif xs ys (lead xs) (lead ys)) * lead (dif xs ys (lead xs) (lead ys)) := Int.mul_pos (by omega) (by omega)
    refine lowF_le hp hp (Int.mul_le_mul_of_nonneg_right ?_ (by omega))
    refine sq_mono (Int.mul_nonneg (Int.mul_nonneg c0 L0) M0) ?_
    exact Int.mul_le_mul_of_nonneg_right (Int.mul_le_mul_of_nonneg_right h L0) M0
theorem corF_none {c c' : Int} {xs ys : List Int} : corF c xs ys = none ↔ corF c' xs ys = none := by
  unfold corF
  split <;> simp
/-- the same line, of a speed no lower -/
def leS : Itm → Itm → Prop
  | .line xs s, .line ys t => xs = ys ∧ 0 ≤ s ∧ s ≤ t
  | .line _ _, _ => False
  | _, .line _ _ => False
  | _, _ => True
theorem ownF_pos {c rate : Int} {a b : Itm} : 0 < (ownF c rate a b).2 := by
  unfold ownF
  split
  · split
    · exact lesserF_pos topF_pos topF_pos
    · rename_i f e
      exact lesserF_pos (lesserF_pos topF_pos topF_pos) (corF_pos e)
  · decide
theorem ownF_none {c rate : Int} {xs ys : List Int} {s t : Int} (e : corF c xs ys = none) : ownF c rate (.line xs s) (.line ys t) = lesserF (topF s rate) (topF t rate) := by unfold ownF; simp only [e]
theorem ownF_some {c rate : Int} {xs ys : List Int} {s t : Int} {f : Fr2} (e : corF c xs ys = some f) : ownF c rate (.line xs s) (.line ys t) = lesserF (lesserF (topF s rate) (topF t rate)) f := by unfold ownF; simp only [e]
theorem ownF_mono {c c' rate rate' : Int} {a b a' b' : Itm} (c0 : 0 ≤ c) (hc : c ≤ c') (r0 : 0 ≤ rate) (hr : rate ≤ rate') (ha : leS a a') (hb : leS b b') : leF (ownF c rate a b) (ownF c' rate' a' b') := by
  have nn : ∀ f : Fr2, 0 ≤ f.1 → leF nought f := fun f h => by
    show 0 * f.2 ≤ f.1 * 1
    rw [Int.zero_mul, Int.mul_one]; exact h
  cases a with
  | line xs s =>
    cases a' with
    | line xs' s' =>
      obtain ⟨rfl, s0, hs⟩ := ha
      cases b with
      | line ys t =>
        cases b' with
        | line ys' t' =>
          obtain ⟨rfl, t0, ht⟩ := hb
          have h1 := topF_mono (r := rate) s0 r0 hs hr
          have h2 := topF_mono (r := rate) t0 r0 ht hr
          have h3 := lesserF_mono topF_pos topF_pos topF_pos topF_pos h1 h2
          cases e : corF c xs ys with
          | none =>
            have e' := (corF_none (c' := c')).mp e
            rw [ownF_none e, ownF_none e']
            exact h3
          | some f =>
            cases e' : corF c' xs ys with
            | none => rw [(corF_none (c' := c)).mp e'] at e; cases e
            | some f' =>
              rw [ownF_some e, ownF_some e']
              exact lesserF_mono (lesserF_pos topF_pos topF_pos) (corF_pos e) (lesserF_pos topF_pos topF_pos) (corF_pos e') h3 (corF_mono c0 hc e e')
        | _ => exact hb.elim
      | _ =>
        cases b' with
        | line ys' t' => exact hb.elim
        | _ => exact nn _ (Int.le_refl _)
    | _ => exact ha.elim
  | _ =>
    cases a' with
    | line xs' s' => exact ha.elim
    | _ => exact nn _ ownF_nn
theorem ownsF_mono {c c' rate rate' : Int} {is js : List Itm} (c0 : 0 ≤ c) (hc : c ≤ c') (r0 : 0 ≤ rate) (hr : rate ≤ rate') (h : All2 leS is js) : All2 (fun s s' => leF s s' ∧ 0 < s.2 ∧ 0 < s'.2) (ownsF c rate is) (ownsF c' rate' js) := by
  have nn : leF nought nought ∧ 0 < nought.2 ∧ 0 < nought.2 := ⟨leF_refl _, by decide, by decide⟩
  cases h with
  | nil => exact .cons nn .nil
  | cons q h =>
    have key : ∀ {is js : List Itm}, All2 leS is js → ∀ {i j : Itm}, leS i j → All2 (fun s s' => leF s s' ∧ 0 < s.2 ∧ 0 < s'.2) (((i :: is).zip is).map fun p => ownF c rate p.1 p.2) (((j :: js).zip js).map fun p => ownF c' rate' p.1 p.2) := fun {is js} h => by
      induction h with
      | nil => intro i j _; exact .nil
      | cons q' _ ih => intro i j q; exact .cons ⟨ownF_mono c0 hc r0 hr q q', ownF_pos, ownF_pos⟩ (ih q')
    exact All2.append (S := fun s s' => leF s s' ∧ 0 < s.2 ∧ 0 < s'.2) (.cons nn (key h q)) (.cons nn .nil)
theorem leS_refl {ax : Nat} {i : Itm} (o : OkI ax i) : leS i i := by
  cases i with
  | line xs s => exact ⟨rfl, by have := o.s1; omega, Int.le_refl _⟩
  | _ => trivial
theorem leI_of {v v' : Int} {i j : Itm} (h : leS i j) (hv : v ≤ v') : leI v v' i j := by
  cases i with
  | line xs s =>
    cases j with
    | line ys t =>
      obtain ⟨rfl, _, _⟩ := h
      refine ⟨rfl, ?_⟩
      show 2 * v * lead xs ≤ 2 * v' * lead xs
      exact Int.mul_le_mul_of_nonneg_right (by omega) lead_nonneg
    | _ => exact h.elim
  | _ =>
    cases j with
    | line ys t => exact h.elim
    | _ => exact ⟨rfl, Int.le_refl _⟩
theorem planF_mono {r r' f f' c c' rate rate' : Int} {is js : List Itm} (hr : r ≤ r') (hf : f ≤ f') (c0 : 0 ≤ c) (hc : c ≤ c') (t0 : 0 ≤ rate) (ht : rate ≤ rate') (h : All2 leS is js) : All2 (fun s s' => leF s s' ∧ 0 < s.2 ∧ 0 < s'.2) (planF r f c rate is) (planF r' f' c' rate' js) :=
  fallenF_mono (h.imp fun _ _ q => leI_of q hf) (risenF_mono (h.imp fun _ _ q => leI_of q hr) (ownsF_mono c0 hc t0 ht h))
theorem q_shr {a b : Int} {h : IH} : gShr (.int a) (.int b) h = if decide (0 ≤ b) = true then some (.int (a / 2 ^ b.toNat)) else none := rfl
theorem q_and {a b : Int} {h : IH} : gAnd (.int a) (.int b) h = some (.int (Builtin.bitAnd a b)) := rfl
theorem All2.zip {α β : Type} {S : α → β → Prop} {l : List α} {m : List β} (h : All2 S l m) : ∀ p ∈ l.zip m, S p.1 p.2 := by
  induction h with
  | nil => intro p mp; simp at mp
  | cons q _ ih =>
    intro p mp
    rcases List.mem_cons.mp mp with e | mp
    · rw [e]; exact q
    · exact ih p mp
theorem any_no {α : Type} {l : List α} {h : IH} : gAny (.lst (l.map fun _ => T.bl false)) h = some (.bl false) := by
  rw [show (l.map fun _ => T.bl false) = ((l.map fun _ => false).map T.bl) by rw [List.map_map]; rfl, q_anyB]
  congr 2
  simp
end GB
namespace GB
open PySem PySem.Spec PyProof.Rows L2
/-! ### beginnings of rows -/
/-- where a walk ends -/
def endF (v : Int) : Fr2 → List Itm → List Fr2 → Fr2
  | p, i :: is, s :: ss => endF v (stepF v p i s) is ss
  | p, _, _ => p
theorem walkF_append {v : Int} : ∀ {A : List Itm} {S : List Fr2} {p : Fr2} {B : List Itm} {U : List Fr2}, A.length = S.length → walkF v p (A ++ B) (S ++ U) = walkF v p A S ++ walkF v (endF v p A S) B U
  | [], [], p, B, U, _ => rfl
  | [], _ :: _, _, _, _, e => by cases e
  | _ :: _, [], _, _, _, e => by cases e
  | i :: A, s :: S, p, B, U, e => by
    show stepF v p i s :: walkF v (stepF v p i s) (A ++ B) (S ++ U) = _
    rw [walkF_append (by simpa using e)]; rfl
theorem walkF_last {v : Int} : ∀ {A : List Itm} {S : List Fr2} {p : Fr2}, A.length = S.length → ∃ l, p :: walkF v p A S = l ++ [endF v p A S] ∧ l.length = S.length
  | [], [], p, _ => ⟨[], rfl, rfl⟩
  | [], _ :: _, _, e => by cases e
  | _ :: _, [], _, e => by cases e
  | i :: A, s :: S, p, e => by
    obtain ⟨l, h1, h2⟩ := walkF_last (v := v) (A := A) (S := S) (p := stepF v p i s) (by simpa using e)
    refine ⟨p :: l, ?_, by simp [h2]⟩
    show p :: (stepF v p i s :: walkF v (stepF v p i s) A S) = _
    rw [h1]; rfl
abbrev LeP (s s' : Fr2) : Prop := leF s s' ∧ 0 < s.2 ∧ 0 < s'.2
theorem fallenF_app {f : Int} {A B : List Itm} {X1 X2 : List Fr2} (h1 : A.length = X1.length) (h2 : X2.length = B.length + 1) : ∃ L R, fallenF f (A ++ B) (X1 ++ X2) = (walkF f L A.reverse X1.reverse).reverse ++ L :: R ∧ ∃ y ys, X2.reverse = y :: ys ∧ L = endF f y B.reverse ys := by
  unfold fallenF
  rw [List.reverse_append, List.reverse_append]
  rcases e : X2.reverse with _ | ⟨y, ys⟩
  · have := congrArg List.length e
    rw [List.length_reverse, h2] at this
    cases this
  · have ly : B.reverse.length = ys.length := by
      have := congrArg List.length e
      rw [List.length_reverse, List.length_cons] at this
      rw [List.length_reverse]; omega
    show ∃ L R, (y :: walkF f y (B.reverse ++ A.reverse) (ys ++ X1.reverse)).reverse = (walkF f L A.reverse X1.reverse).reverse ++ L :: R ∧ ∃ y' ys', y :: ys = y' :: ys' ∧ L = endF f y' B.reverse ys'
    rw [walkF_append ly]
    obtain ⟨l, e1, e2⟩ := walkF_last (v := f) (A := B.reverse) (S := ys) (p := y) ly
    refine ⟨endF f y B.reverse ys, l.reverse, ?_, y, ys, rfl, rfl⟩
    rw [← List.cons_append, e1, List.reverse_append, List.reverse_append]
    rfl
theorem stepF_nn {v : Int} {p s : Fr2} {i : Itm} (hc : 0 ≤ chg v i) (p0 : 0 ≤ p.1) (pp : 0 < p.2) (s0 : 0 ≤ s.1) : 0 ≤ (stepF v p i s).1 := by
  unfold stepF
  split
  · refine lesserF_nn s0 ?_
    show 0 ≤ p.1 + chg v i * p.2
    have := Int.mul_nonneg hc (Int.le_of_lt pp)
    omega
  · exact s0
theorem chg_nn {v : Int} {i : Itm} (h : 0 ≤ v) : 0 ≤ chg v i := by
  cases i with
  | line xs s => exact Int.mul_nonneg (by omega) lead_nonneg
  | _ => exact Int.le_refl _
theorem endF_nn {v : Int} (hv : 0 ≤ v) : ∀ (A : List Itm) (S : List Fr2) (p : Fr2), 0 ≤ p.1 → 0 < p.2 → (∀ s ∈ S, 0 ≤ s.1 ∧ 0 < s.2) → 0 ≤ (endF v p A S).1 ∧ 0 < (endF v p A S).2
  | [], _, _, p0, pp, _ => ⟨p0, pp⟩
  | _ :: _, [], _, p0, pp, _ => ⟨p0, pp⟩
  | i :: A, s :: S, p, p0, pp, hs => by
    have h1 := hs s List.mem_cons_self
    exact endF_nn hv A S (stepF v p i s) (stepF_nn (chg_nn hv) p0 pp h1.1) (stepF_pos pp h1.2) fun y my => hs y (List.mem_cons_of_mem _ my)
theorem nought_le {f : Fr2} (h : 0 ≤ f.1) : leF nought f := by
  show 0 * f.2 ≤ f.1 * 1
  rw [Int.zero_mul, Int.mul_one]; exact h
theorem walkF_snoc {v : Int} {A : List Itm} {a : Itm} {S : List Fr2} {p u : Fr2} (h : A.length = S.length) : walkF v p (A ++ [a]) (S ++ [u]) = walkF v p A S ++ [stepF v (endF v p A S) a u] := by
  rw [walkF_append h]; rfl
theorem ownAt_app {c rate : Int} {A B : List Itm} {j : Nat} (hj : j < A.length) : ownAt c rate (A ++ B) j = ownAt c rate A j := by
  cases j with
  | zero => rfl
  | succ j =>
    unfold ownAt
    simp only []
    rw [List.getElem?_append_left (by omega), List.getElem?_append_left (by omega)]
theorem ownAt_nn {c rate : Int} {is : List Itm} {j : Nat} : 0 ≤ (ownAt c rate is j).1 ∧ 0 < (ownAt c rate is j).2 := by
  cases j with
  | zero => exact ⟨Int.le_refl _, Int.one_pos⟩
  | succ j =>
    unfold ownAt
    simp only []
    split
    · exact ⟨ownF_nn, ownF_pos⟩
    · exact ⟨Int.le_refl _, Int.one_pos⟩
theorem ownAt_last {c rate : Int} {is : List Itm} : ownAt c rate is is.length = nought := by
  cases e : is.length with
  | zero => rfl
  | succ n =>
    unfold ownAt
    simp only []
    rw [List.getElem?_eq_none (l := is) (i := n + 1) (by omega)]
    split
    · rename_i h; cases h
    · rfl
theorem owns_split {c rate : Int} {A B : List Itm} : ownsF c rate (A ++ B) = (List.range A.length).map (ownAt c rate A) ++ (ownAt c rate (A ++ B) A.length :: (List.range B.length).map fun j => ownAt c rate (A ++ B) (A.length + (1 + j))) := by
  rw [ownsF_at, List.length_append, show A.length + B.length + 1 = A.length + (1 + B.length) by omega, List.range_add, List.map_append, List.range_add]
  refine congr (congrArg _ (List.map_congr_left fun j mj => ownAt_app (List.mem_range.mp mj))) ?_
  simp only [List.map_append, List.map_map]
  rfl
theorem owns_alone {c rate : Int} {A : List Itm} : ownsF c rate A = (List.range A.length).map (ownAt c rate A) ++ [nought] := by
  rw [ownsF_at, List.range_succ, List.map_append]
  show _ ++ [ownAt c rate A A.length] = _
  rw [ownAt_last]
theorem risenF_app {r : Int} {A B : List Itm} {X Y : List Fr2} {y : Fr2} (h : X.length = A.length) : ∃ E, risenF r (A ++ B) (X ++ y :: Y) = risenF r A (X ++ [y]) ++ E := by
  cases X with
  | nil =>
    cases A with
    | nil => exact ⟨_, rfl⟩
    | cons a A => cases h
  | cons x X =>
    refine ⟨walkF r (endF r x A (X ++ [y])) B Y, ?_⟩
    show x :: walkF r x (A ++ B) (X ++ y :: Y) = x :: walkF r x A (X ++ [y]) ++ _
    rw [show X ++ y :: Y = (X ++ [y]) ++ Y by simp, walkF_append (by simp at h ⊢; omega)]
    rfl
theorem stepF_le {v : Int} {p s : Fr2} {i : Itm} : leF (stepF v p i s) s := by
  unfold stepF
  split
  · exact lesserF_le_left
  · exact leF_refl _
theorem risenF_snoc {r : Int} {A : List Itm} {X : List Fr2} {y : Fr2} (h : X.length = A.length) : ∃ l e, risenF r A (X ++ [y]) = l ++ [e] ∧ l.length = A.length ∧ leF e y := by
  cases X with
  | nil =>
    cases A with
    | nil => exact ⟨[], y, rfl, rfl, leF_refl _⟩
    | cons a A => cases h
  | cons x X =>
    rcases List.eq_nil_or_concat A with rfl | ⟨A0, a, rfl⟩
    · cases h
    · have hl : A0.length = X.length := by simp at h; omega
      refine ⟨x :: walkF r x A0 X, stepF r (endF r x A0 X) a y, ?_, ?_, stepF_le⟩
      · show x :: walkF r x (A0.concat a) (X ++ [y]) = _
        rw [List.concat_eq_append, walkF_snoc hl]; rfl
      · simp [walkF_len A0 X x hl, hl]
theorem walkF_nn {v : Int} (hv : 0 ≤ v) : ∀ (A : List Itm) (S : List Fr2) (p : Fr2), 0 ≤ p.1 → 0 < p.2 → (∀ s ∈ S, 0 ≤ s.1 ∧ 0 < s.2) → ∀ x ∈ walkF v p A S, 0 ≤ x.1 ∧ 0 < x.2
  | [], _, _, _, _, _, x, mx => by simp [walkF] at mx
  | _ :: _, [], _, _, _, _, x, mx => by simp [walkF] at mx
  | i :: A, s :: S, p, p0, pp, hs, x, mx => by
    have h1 := hs s List.mem_cons_self
    have n1 := stepF_nn (v := v) (i := i) (chg_nn hv) p0 pp h1.1
    have n2 := stepF_pos (v := v) (i := i) pp h1.2
    rcases List.mem_cons.mp (show x ∈ stepF v p i s :: walkF v (stepF v p i s) A S from mx) with e | mx
    · rw [e]; exact ⟨n1, n2⟩
    · exact walkF_nn hv A S _ n1 n2 (fun y my => hs y (List.mem_cons_of_mem _ my)) x mx
theorem risenF_nn {v : Int} (hv : 0 ≤ v) {A : List Itm} {S : List Fr2} (hs : ∀ s ∈ S, 0 ≤ s.1 ∧ 0 < s.2) : ∀ x ∈ risenF v A S, 0 ≤ x.1 ∧ 0 < x.2 := by
  cases S with
  | nil => intro x mx; cases mx
  | cons s S =>
    intro x mx
    have h1 := hs s List.mem_cons_self
    rcases List.mem_cons.mp (show x ∈ s :: walkF v s A S from mx) with e | mx
    · rw [e]; exact h1
    · exact walkF_nn hv A S s h1.1 h1.2 (fun y my => hs y (List.mem_cons_of_mem _ my)) x mx
theorem ownsF_nn {c rate : Int} {is : List Itm} : ∀ s ∈ ownsF c rate is, 0 ≤ s.1 ∧ 0 < s.2 := by
  intro s ms
  rw [ownsF_at] at ms
  obtain ⟨j, _, rfl⟩ := List.mem_map.mp ms
  exact ownAt_nn
theorem all2_snoc {α β : Type} {S : α → β → Prop} : ∀ {l : List α} {m : List β} {a : α} {b : β}, All2 S (l ++ [a]) (m ++ [b]) → All2 S l m ∧ S a b
  | [], [], a, b, h => by cases h with | cons q _ => exact ⟨.nil, q⟩
  | [], x :: m, a, b, h => by
    have := h.len; simp at this
  | x :: l, [], a, b, h => by
    have := h.len; simp at this
  | x :: l, y :: m, a, b, h => by
    cases h with
    | cons q h =>
      obtain ⟨h1, h2⟩ := all2_snoc h
      exact ⟨.cons q h1, h2⟩
/-- the plan of a beginning is at no border above the plan of the whole -/
theorem planF_prefix {r f c rate : Int} {A B : List Itm} (hr : 0 ≤ r) (hf : 0 ≤ f) : ∃ M R, planF r f c rate (A ++ B) = M ++ R ∧ All2 LeP (planF r f c rate A) M := by
  have hX : ((List.range A.length).map (ownAt c rate A)).length = A.length := by simp
  have nnX : ∀ s ∈ (List.range A.length).map (ownAt c rate A), 0 ≤ s.1 ∧ 0 < s.2 := fun s ms => by
    obtain ⟨j, _, rfl⟩ := List.mem_map.mp ms
    exact ownAt_nn
  have nnW : ∀ x ∈ risenF r (A ++ B) (ownsF c rate (A ++ B)), 0 ≤ x.1 ∧ 0 < x.2 := risenF_nn hr ownsF_nn
  have lenW : (risenF r (A ++ B) (ownsF c rate (A ++ B))).length = A.length + B.length + 1 := by
    rw [risenF_len ownsF_len, ownsF_len, List.length_append]
  unfold planF
  rw [owns_alone (A := A)]
  rw [owns_split] at nnW lenW ⊢
  generalize (List.range A.length).map (ownAt c rate A) = X at hX nnX nnW lenW ⊢
  have hy : 0 ≤ (ownAt c rate (A ++ B) A.length).1 ∧ 0 < (ownAt c rate (A ++ B) A.length).2 := ownAt_nn
  generalize ownAt c rate (A ++ B) A.length = y at hy nnW lenW ⊢
  generalize ((List.range B.length).map fun j => ownAt c rate (A ++ B) (A.length + (1 + j))) = Y at nnW lenW ⊢
  obtain ⟨E, hE⟩ := risenF_app (r := r) (A := A) (B := B) (Y := Y) (y := y) hX
  obtain ⟨l, e, h1, h2, h3⟩ := risenF_snoc (r := r) (y := nought) hX
  obtain ⟨l', e', h1', h2', h3'⟩ := risenF_snoc (r := r) (y := y) hX
  have cmp : All2 LeP (risenF r A (X ++ [nought])) (risenF r A (X ++ [y])) := by
    refine risenF_mono (All2.self fun i _ => ⟨rfl, Int.le_refl _⟩) ?_
    exact All2.append (All2.self fun x mx => ⟨leF_refl _, (nnX x mx).2, (nnX x mx).2⟩) (.cons ⟨nought_le hy.1, by decide, hy.2⟩ .nil)
  rw [h1, h1'] at cmp
  obtain ⟨c1, c2⟩ := all2_snoc cmp
  rw [hE, h1', List.append_assoc] at nnW lenW ⊢
  rw [h1]
  have lenE : ([e'] ++ E).length = B.length + 1 := by
    rw [List.length_append, h2'] at lenW
    omega
  obtain ⟨L, R, eq, y0, ys, ey, eL⟩ := fallenF_app (f := f) (A := A) (B := B) (X1 := l') (X2 := [e'] ++ E) h2'.symm lenE
  rw [eq]
  have nnL : 0 ≤ L.1 ∧ 0 < L.2 := by
    have mem : ∀ x ∈ y0 :: ys, 0 ≤ x.1 ∧ 0 < x.2 := fun x mx => by
      rw [← ey] at mx
      exact nnW x (List.mem_append_right _ (List.mem_reverse.mp mx))
    rw [eL]
    exact endF_nn hf _ _ _ (mem y0 List.mem_cons_self).1 (mem y0 List.mem_cons_self).2 fun s ms => mem s (List.mem_cons_of_mem _ ms)
  refine ⟨(walkF f L A.reverse l'.reverse).reverse ++ [L], R, by simp, ?_⟩
  have eq0 : fallenF f A (l ++ [e]) = (walkF f e A.reverse l.reverse).reverse ++ [e] := by
    unfold fallenF
    rw [List.reverse_append]
    show (e :: walkF f e A.reverse l.reverse).reverse = _
    rw [List.reverse_cons]
  rw [eq0]
  have le0 : leF e L := leF_trans c2.2.1 (by decide : 0 < nought.2) nnL.2 h3 (nought_le nnL.1)
  exact All2.append (walkF_mono (All2.self fun i _ => ⟨rfl, Int.le_refl _⟩) c1.reverse c2.2.1 nnL.2 le0).reverse (.cons ⟨le0, c2.2.1, nnL.2⟩ .nil)
theorem zip_app_left {α β : Type} : ∀ {l : List α} {m R : List β}, l.length = m.length → l.zip (m ++ R) = l.zip m
  | [], _, _, _ => by simp
  | _ :: _, [], _, e => by cases e
  | x :: l, y :: m, R, e => by
    show (x, y) :: l.zip (m ++ R) = (x, y) :: l.zip m
    rw [zip_app_left (by simpa using e)]
end GB
namespace GB
open PySem PySem.Spec PyProof.Rows L2
/-! ### what a plan is: no bound broken, none greater -/
def sqAt (S : List Fr2) (j : Nat) : Fr2 := S.getD j nought
structure Feas (r f : Int) (is : List Itm) (O S : Nat → Fr2) : Prop where
  pos : ∀ j, 0 < (S j).2
  own : ∀ j, j ≤ is.length → leF (S j) (O j)
  up : ∀ k i, is[k]? = some i → isL i = true → leF (S (k + 1)) (plusK (S k) (chg r i))
  down : ∀ k i, is[k]? = some i → isL i = true → leF (S k) (plusK (S (k + 1)) (chg f i))
theorem sqAt_pos {S : List Fr2} (h : ∀ s ∈ S, 0 < s.2) (j : Nat) : 0 < (sqAt S j).2 := by
  unfold sqAt
  rw [List.getD_eq_getElem?_getD]
  cases e : S[j]? with
  | none => exact Int.one_pos
  | some s => exact h s (List.mem_of_getElem? e)
theorem sqAt_mem {S : List Fr2} {j : Nat} (h : j < S.length) : sqAt S j ∈ S := by
  unfold sqAt
  rw [List.getD_eq_getElem?_getD, List.getElem?_eq_getElem h]
  exact List.getElem_mem h
theorem sqAt_get {S : List Fr2} {j : Nat} (h : j < S.length) : S[j]? = some (sqAt S j) := by
  unfold sqAt
  rw [List.getD_eq_getElem?_getD, List.getElem?_eq_getElem h]
  rfl
theorem walkF_at {v : Int} : ∀ (is : List Itm) (ss : List Fr2) (p : Fr2) (k : Nat) (i : Itm) (s : Fr2), is[k]? = some i → ss[k]? = some s → sqAt (p :: walkF v p is ss) (k + 1) = stepF v (sqAt (p :: walkF v p is ss) k) i s
  | [], _, _, _, _, _, e, _ => by simp at e
  | _ :: _, [], _, _, _, _, _, e => by simp at e
  | i0 :: is, s0 :: ss, p, 0, i, s, e, e' => by
    cases e; cases e'; rfl
  | i0 :: is, s0 :: ss, p, k + 1, i, s, e, e' => walkF_at is ss (stepF v p i0 s0) k i s (by simpa using e) (by simpa using e')
theorem risenF_at {v : Int} {is : List Itm} {ss : List Fr2} (h : ss.length = is.length + 1) {k : Nat} {i : Itm} (e : is[k]? = some i) : sqAt (risenF v is ss) (k + 1) = stepF v (sqAt (risenF v is ss) k) i (sqAt ss (k + 1)) := by
  cases ss with
  | nil => cases h
  | cons s ss =>
    have hk : k < is.length := (List.getElem?_eq_some_iff.mp e).1
    have hs : k < ss.length := by simp at h; omega
    show sqAt (s :: walkF v s is ss) (k + 1) = stepF v (sqAt (s :: walkF v s is ss) k) i (sqAt ss k)
    exact walkF_at is ss s k i _ e (sqAt_get hs)
theorem risenF_at0 {v : Int} {is : List Itm} {ss : List Fr2} : sqAt (risenF v is ss) 0 = sqAt ss 0 := by
  cases ss <;> rfl
theorem sqAt_rev {S : List Fr2} {j : Nat} (h : j < S.length) : sqAt S.reverse j = sqAt S (S.length - 1 - j) := by
  unfold sqAt
  rw [List.getD_eq_getElem?_getD, List.getD_eq_getElem?_getD, List.getElem?_reverse h]
theorem fallenF_at {v : Int} {is : List Itm} {ss : List Fr2} (h : ss.length = is.length + 1) {k : Nat} {i : Itm} (e : is[k]? = some i) : sqAt (fallenF v is ss) k = stepF v (sqAt (fallenF v is ss) (k + 1)) i (sqAt ss k) := by
  have hk : k < is.length := (List.getElem?_eq_some_iff.mp e).1
  unfold fallenF
  have hl : (risenF v is.reverse ss.reverse).length = is.length + 1 := by rw [risenF_len (by simpa using h)]; simpa using h
  rw [sqAt_rev (by omega), sqAt_rev (by omega), hl]
  have e2 : is.reverse[is.length - 1 - k]? = some i := by
    rw [List.getElem?_reverse (by omega), show is.length - 1 - (is.length - 1 - k) = k by omega]; exact e
  have := risenF_at (v := v) (ss := ss.reverse) (by simpa using h) e2
  rw [show is.length + 1 - 1 - k = is.length - 1 - k + 1 by omega, this, show is.length + 1 - 1 - (k + 1) = is.length - 1 - k by omega, sqAt_rev (by omega), show ss.length - 1 - (is.length - 1 - k + 1) = k by omega]
theorem fallenF_at0 {v : Int} {is : List Itm} {ss : List Fr2} (h : ss.length = is.length + 1) : sqAt (fallenF v is ss) is.length = sqAt ss is.length := by
  unfold fallenF
  have hl : (risenF v is.reverse ss.reverse).length = is.length + 1 := by rw [risenF_len (by simpa using h)]; simpa using h
  rw [sqAt_rev (by omega), hl, show is.length + 1 - 1 - is.length = 0 by omega, risenF_at0, sqAt_rev (by omega), show ss.length - 1 - 0 = is.length by omega]
theorem plusK_plusK {x : Fr2} {a b : Int} : plusK (plusK x a) b = plusK x (a + b) := by
  show (x.1 + a * x.2 + b * x.2, x.2) = (x.1 + (a + b) * x.2, x.2)
  rw [Int.add_mul, Int.add_assoc]
theorem plusK_0 {x : Fr2} : plusK x 0 = x := by
  show (x.1 + 0 * x.2, x.2) = x
  rw [Int.zero_mul, Int.add_zero]
theorem plusK_pos {x : Fr2} {k : Int} (h : 0 < x.2) : 0 < (plusK x k).2 := h
theorem plusK_up {x : Fr2} {k : Int} (p : 0 < x.2) (h : 0 ≤ k) : leF x (plusK x k) := by
  have := plusK_mono p p (leF_refl x) h
  rw [plusK_0] at this; exact this
theorem planF_nn {r f c rate : Int} {is : List Itm} (hr : 0 ≤ r) (hf : 0 ≤ f) : ∀ x ∈ planF r f c rate is, 0 ≤ x.1 ∧ 0 < x.2 := fun x mx =>
  risenF_nn hf (fun s ms => risenF_nn hr ownsF_nn s (List.mem_reverse.mp ms)) x (List.mem_reverse.mp mx)
theorem planF_feas {r f c rate : Int} {is : List Itm} (hr : 0 ≤ r) (hf : 0 ≤ f) : Feas r f is (sqAt (ownsF c rate is)) (sqAt (planF r f c rate is)) := by
  have nO : ∀ j, 0 < (sqAt (ownsF c rate is) j).2 := sqAt_pos fun s ms => (ownsF_nn s ms).2
  have n1 : ∀ j, 0 < (sqAt (risenF r is (ownsF c rate is)) j).2 := sqAt_pos fun s ms => (risenF_nn hr ownsF_nn s ms).2
  have n2 : ∀ j, 0 < (sqAt (planF r f c rate is) j).2 := sqAt_pos fun s ms => (planF_nn hr hf s ms).2
  have l1 : (risenF r is (ownsF c rate is)).length = is.length + 1 := by rw [risenF_len ownsF_len, ownsF_len]
  have le1 : ∀ j, j ≤ is.length → leF (sqAt (risenF r is (ownsF c rate is)) j) (sqAt (ownsF c rate is) j) := fun j hj => by
    cases j with
    | zero => rw [risenF_at0]; exact leF_refl _
    | succ j =>
      rw [risenF_at ownsF_len (List.getElem?_eq_getElem (by omega : j < is.length))]
      exact stepF_le
  have le2 : ∀ j, j ≤ is.length → leF (sqAt (planF r f c rate is) j) (sqAt (risenF r is (ownsF c rate is)) j) := fun j hj => by
    rcases Nat.lt_or_ge j is.length with q | q
    · unfold planF
      rw [fallenF_at l1 (List.getElem?_eq_getElem q)]
      exact stepF_le
    · rw [show j = is.length by omega]
      unfold planF
      rw [fallenF_at0 l1]; exact leF_refl _
  have dn : ∀ k i, is[k]? = some i → isL i = true → leF (sqAt (planF r f c rate is) k) (plusK (sqAt (planF r f c rate is) (k + 1)) (chg f i)) := fun k i e li => by
    have := fallenF_at (v := f) l1 e
    show leF (sqAt (fallenF f is (risenF r is (ownsF c rate is))) k) _
    rw [this]
    unfold stepF
    rw [if_pos li]
    exact lesserF_le_right
  refine ⟨n2, fun j hj => leF_trans (n2 j) (n1 j) (nO j) (le2 j hj) (le1 j hj), fun k i e li => ?_, dn⟩
  have hk : k < is.length := (List.getElem?_eq_some_iff.mp e).1
  have eq := fallenF_at (v := f) l1 e
  change sqAt (planF r f c rate is) k = _ at eq
  unfold stepF at eq
  rw [if_pos li] at eq
  have c1 := chg_nn (i := i) hr
  have c2 := chg_nn (i := i) hf
  rw [eq]
  have b1 : leF (sqAt (planF r f c rate is) (k + 1)) (plusK (sqAt (risenF r is (ownsF c rate is)) k) (chg r i)) := by
    refine leF_trans (n2 _) (n1 _) (n1 k) (le2 (k + 1) (by omega)) ?_
    rw [risenF_at ownsF_len e]
    unfold stepF
    rw [if_pos li]
    exact lesserF_le_right
  unfold lesserF
  split
  · rw [plusK_plusK]
    exact plusK_up (n2 _) (by omega)
  · exact b1
theorem planF_greatest {r f c rate : Int} {is : List Itm} (hr : 0 ≤ r) (hf : 0 ≤ f) {S : Nat → Fr2} (F : Feas r f is (sqAt (ownsF c rate is)) S) : ∀ j, j ≤ is.length → leF (S j) (sqAt (planF r f c rate is) j) := by
  have n1 : ∀ j, 0 < (sqAt (risenF r is (ownsF c rate is)) j).2 := sqAt_pos fun s ms => (risenF_nn hr ownsF_nn s ms).2
  have n2 : ∀ j, 0 < (sqAt (planF r f c rate is) j).2 := sqAt_pos fun s ms => (planF_nn hr hf s ms).2
  have l1 : (risenF r is (ownsF c rate is)).length = is.length + 1 := by rw [risenF_len ownsF_len, ownsF_len]
  have le1 : ∀ j, j ≤ is.length → leF (S j) (sqAt (risenF r is (ownsF c rate is)) j) := fun j => by
    induction j with
    | zero => intro _; rw [risenF_at0]; exact F.own 0 (Nat.zero_le _)
    | succ j ih =>
      intro hj
      have e := List.getElem?_eq_getElem (by omega : j < is.length)
      rw [risenF_at ownsF_len e]
      unfold stepF
      split
      · rename_i li
        exact le_lesserF (F.own _ hj) (leF_trans (F.pos _) (plusK_pos (F.pos j)) (plusK_pos (n1 j)) (F.up j _ e li) (plusK_mono (F.pos j) (n1 j) (ih (by omega)) (Int.le_refl _)))
      · exact F.own _ hj
  have go : ∀ d j, j + d = is.length → leF (S j) (sqAt (planF r f c rate is) j) := fun d => by
    induction d with
    | zero =>
      intro j hj
      rw [show j = is.length by omega]
      unfold planF
      rw [fallenF_at0 l1]; exact le1 _ (Nat.le_refl _)
    | succ d ih =>
      intro j hj
      have e := List.getElem?_eq_getElem (by omega : j < is.length)
      have eq := fallenF_at (v := f) l1 e
      change sqAt (planF r f c rate is) j = _ at eq
      rw [eq]
      unfold stepF
      split
      · rename_i li
        exact le_lesserF (le1 j (by omega)) (leF_trans (F.pos _) (plusK_pos (F.pos (j + 1))) (plusK_pos (n2 (j + 1))) (F.down j _ e li) (plusK_mono (F.pos _) (n2 _) (ih (j + 1) (by omega)) (Int.le_refl _)))
      · exact le1 j (by omega)
  exact fun j hj => go (is.length - j) j (by omega)
theorem leF_antisymm {a b : Fr2} (ha : Fq a.1 a.2) (hb : Fq b.1 b.2) (h1 : leF a b) (h2 : leF b a) : a = b := by
  have e := low_eq ha.pos hb.pos (Int.le_antisymm h1 h2)
  rw [ha.low, hb.low] at e
  injection e with e
  injection e with e1 e
  injection e with e2 e
  injection e1 with e1
  injection e2 with e2
  exact Prod.ext e1 e2
theorem list_sq_eq {S U : List Fr2} (h : S.length = U.length) (k : ∀ j, j < S.length → sqAt S j = sqAt U j) : S = U := by
  refine List.ext_getElem? fun j => ?_
  by_cases q : j < S.length
  · rw [sqAt_get q, sqAt_get (by omega), k j q]
  · rw [List.getElem?_eq_none (by omega), List.getElem?_eq_none (by omega)]
/-- the one greatest plan -/
theorem plan_unique {r f c rate : Int} {is : List Itm} {D : List Fr2} (hr : 0 ≤ r) (hf : 0 ≤ f) (hq : ∀ x ∈ planF r f c rate is, Fq x.1 x.2) (hd : ∀ x ∈ D, Fq x.1 x.2) (len : D.length = is.length + 1)
    (F : Feas r f is (sqAt (ownsF c rate is)) (sqAt D)) (ge : ∀ j, j ≤ is.length → leF (sqAt (planF r f c rate is) j) (sqAt D j)) : D = planF r f c rate is :=
  list_sq_eq (by rw [len, planF_len]) fun j hj => leF_antisymm (hd _ (sqAt_mem hj)) (hq _ (sqAt_mem (by rw [planF_len]; omega))) (planF_greatest hr hf F j (by omega)) (ge j (by omega))
/-! ### the least of all that others let a border be -/
def aheadL (r : Int) (is : List Itm) (O : Nat → Fr2) : Nat → Int → List (Nat × Fr2)
  | 0, _ => []
  | a + 1, w => match is[a]? with
    | some i => if isL i = true then (a, plusK (O a) (w + chg r i)) :: aheadL r is O a (w + chg r i) else []
    | none => []
def behindL (f : Int) (O : Nat → Fr2) : List Itm → Nat → Int → List (Nat × Fr2)
  | [], _, _ => []
  | i :: is, a, w => if isL i = true then (a + 1, plusK (O (a + 1)) (w + chg f i)) :: behindL f O is (a + 1) (w + chg f i) else []
def shP (c : Int) (p : Nat × Fr2) : Nat × Fr2 := (p.1, plusK p.2 c)
theorem aheadL_sh {r : Int} {is : List Itm} {O : Nat → Fr2} {c : Int} : ∀ (a : Nat) (w : Int), aheadL r is O a (w + c) = (aheadL r is O a w).map (shP c)
  | 0, _ => rfl
  | a + 1, w => by
    unfold aheadL
    split
    · rename_i i e
      split
      · rw [show w + c + chg r i = (w + chg r i) + c by omega, aheadL_sh a]
        simp only [List.map_cons]
        congr 1
        show (a, _) = (a, plusK (plusK (O a) (w + chg r i)) c)
        rw [plusK_plusK]
      · rfl
    · rfl
theorem behindL_sh {f : Int} {O : Nat → Fr2} {c : Int} : ∀ (is : List Itm) (a : Nat) (w : Int), behindL f O is a (w + c) = (behindL f O is a w).map (shP c)
  | [], _, _ => rfl
  | i :: is, a, w => by
    unfold behindL
    split
    · rw [show w + c + chg f i = (w + chg f i) + c by omega, behindL_sh is]
      simp only [List.map_cons]
      congr 1
      show (a + 1, _) = (a + 1, plusK (plusK (O (a + 1)) (w + chg f i)) c)
      rw [plusK_plusK]
    · rfl
theorem aheadL_line {r : Int} {is : List Itm} {O : Nat → Fr2} {k : Nat} {i : Itm} (e : is[k]? = some i) (li : isL i = true) : aheadL r is O (k + 1) 0 = (k, plusK (O k) (chg r i)) :: (aheadL r is O k 0).map (shP (chg r i)) := by
  rw [← aheadL_sh]
  show (match is[k]? with | some i => if isL i = true then (k, plusK (O k) (0 + chg r i)) :: aheadL r is O k (0 + chg r i) else [] | none => []) = _
  rw [e]
  show (if isL i = true then _ else _) = _
  rw [if_pos li, Int.zero_add]
theorem behindL_line {f : Int} {is : List Itm} {O : Nat → Fr2} {k : Nat} {i : Itm} (e : is[k]? = some i) (li : isL i = true) : behindL f O (is.drop k) k 0 = (k + 1, plusK (O (k + 1)) (chg f i)) :: (behindL f O (is.drop (k + 1)) (k + 1) 0).map (shP (chg f i)) := by
  have hk : k < is.length := (List.getElem?_eq_some_iff.mp e).1
  rw [← behindL_sh, List.drop_eq_getElem_cons hk]
  have : is[k] = i := by rw [List.getElem?_eq_getElem hk] at e; exact Option.some.inj e
  rw [this]
  show (if isL i = true then _ else _) = _
  rw [if_pos li, Int.zero_add]
def leastL (x : Fr2) (l : List (Nat × Fr2)) : Fr2 := l.foldl (fun s p => lesserF s p.2) x
theorem leastL_pos : ∀ {l : List (Nat × Fr2)} {x : Fr2}, 0 < x.2 → (∀ p ∈ l, 0 < p.2.2) → 0 < (leastL x l).2
  | [], _, h, _ => h
  | p :: l, x, h, k => leastL_pos (l := l) (x := lesserF x p.2) (lesserF_pos h (k p List.mem_cons_self)) fun q mq => k q (List.mem_cons_of_mem _ mq)
theorem leastL_le : ∀ {l : List (Nat × Fr2)} {x : Fr2}, 0 < x.2 → (∀ p ∈ l, 0 < p.2.2) → leF (leastL x l) x ∧ ∀ p ∈ l, leF (leastL x l) p.2
  | [], x, _, _ => ⟨leF_refl _, fun p mp => by cases mp⟩
  | p :: l, x, h, k => by
    have kp := k p List.mem_cons_self
    have kl : ∀ q ∈ l, 0 < q.2.2 := fun q mq => k q (List.mem_cons_of_mem _ mq)
    have hp : 0 < (lesserF x p.2).2 := lesserF_pos h kp
    obtain ⟨h1, h2⟩ := leastL_le (l := l) hp kl
    have hl := leastL_pos (l := l) hp kl
    refine ⟨leF_trans hl hp h h1 lesserF_le_left, fun q mq => ?_⟩
    rcases List.mem_cons.mp mq with e | mq
    · rw [e]; exact leF_trans hl hp kp h1 lesserF_le_right
    · exact h2 q mq
theorem leastL_ge {y : Fr2} : ∀ {l : List (Nat × Fr2)} {x : Fr2}, leF y x → (∀ p ∈ l, leF y p.2) → leF y (leastL x l)
  | [], _, h, _ => h
  | p :: l, x, h, k => leastL_ge (l := l) (x := lesserF x p.2) (le_lesserF h (k p List.mem_cons_self)) fun q mq => k q (List.mem_cons_of_mem _ mq)
theorem leastL_is : ∀ {l : List (Nat × Fr2)} {x : Fr2}, leastL x l = x ∨ ∃ p ∈ l, leastL x l = p.2
  | [], _ => .inl rfl
  | p :: l, x => by
    rcases leastL_is (l := l) (x := lesserF x p.2) with h | ⟨q, mq, h⟩
    · have e : leastL x (p :: l) = lesserF x p.2 := h
      rw [e]
      unfold lesserF
      split
      · exact .inr ⟨p, List.mem_cons_self, rfl⟩
      · exact .inl rfl
    · exact .inr ⟨q, List.mem_cons_of_mem _ mq, h⟩
/-- for each border the least of its own bound and of all that others let it be -/
def reachF (r f : Int) (is : List Itm) (O : Nat → Fr2) (b : Nat) : Fr2 := leastL (O b) (aheadL r is O b 0 ++ behindL f O (is.drop b) b 0)
theorem aheadL_prop {r : Int} {is : List Itm} {O : Nat → Fr2} {P : Fr2 → Prop} (hO : ∀ j k, j < is.length → 0 ≤ k → P (plusK (O j) k)) (hr : 0 ≤ r) : ∀ (a : Nat) (w : Int), 0 ≤ w → ∀ p ∈ aheadL r is O a w, P p.2
  | 0, _, _, p, mp => by cases mp
  | a + 1, w, hw, p, mp => by
    unfold aheadL at mp
    split at mp
    · rename_i i e
      have c1 := chg_nn (i := i) hr
      split at mp
      · rcases List.mem_cons.mp mp with e' | mp
        · rw [e']; exact hO a _ (List.getElem?_eq_some_iff.mp e).1 (by omega)
        · exact aheadL_prop hO hr a _ (by omega) p mp
      · cases mp
    · cases mp
theorem behindL_prop {f : Int} {O : Nat → Fr2} {P : Fr2 → Prop} {n : Nat} (hO : ∀ j k, j ≤ n → 0 ≤ k → P (plusK (O j) k)) (hf : 0 ≤ f) : ∀ (is : List Itm) (a : Nat) (w : Int), a + is.length ≤ n → 0 ≤ w → ∀ p ∈ behindL f O is a w, P p.2
  | [], _, _, _, _, p, mp => by cases mp
  | i :: is, a, w, hl, hw, p, mp => by
    have c1 := chg_nn (i := i) hf
    rw [List.length_cons] at hl
    unfold behindL at mp
    split at mp
    · rcases List.mem_cons.mp mp with e' | mp
      · rw [e']; exact hO (a + 1) _ (by omega) (by omega)
      · exact behindL_prop hO hf is _ _ (by omega) (by omega) p mp
    · cases mp
section
variable {r f : Int} {is : List Itm} {O : Nat → Fr2}
theorem reach_pos (hO : ∀ j, 0 < (O j).2) (hr : 0 ≤ r) (hf : 0 ≤ f) (b : Nat) (hb : b ≤ is.length) : ∀ p ∈ aheadL r is O b 0 ++ behindL f O (is.drop b) b 0, 0 < p.2.2 := fun p mp => by
  rcases List.mem_append.mp mp with m | m
  · exact aheadL_prop (P := fun x => 0 < x.2) (fun j k _ _ => hO j) hr b 0 (Int.le_refl _) p m
  · exact behindL_prop (P := fun x => 0 < x.2) (n := is.length) (fun j k _ _ => hO j) hf _ _ 0 (by rw [List.length_drop]; omega) (Int.le_refl _) p m
theorem ahead_ge {S : Nat → Fr2} (F : Feas r f is O S) (hO : ∀ j, 0 < (O j).2) : ∀ (a : Nat) (w : Int), ∀ p ∈ aheadL r is O a w, leF (plusK (S a) w) p.2
  | 0, _, p, mp => by cases mp
  | a + 1, w, p, mp => by
    unfold aheadL at mp
    split at mp
    · rename_i i e
      split at mp
      · rename_i li
        have st : leF (plusK (S (a + 1)) w) (plusK (S a) (w + chg r i)) := by
          have := plusK_mono (F.pos (a + 1)) (plusK_pos (F.pos a)) (F.up a i e li) (Int.le_refl w)
          rw [plusK_plusK, show chg r i + w = w + chg r i by omega] at this
          exact this
        rcases List.mem_cons.mp mp with e' | mp
        · rw [e']
          exact leF_trans (plusK_pos (F.pos (a + 1))) (plusK_pos (F.pos a)) (plusK_pos (hO a)) st (plusK_mono (F.pos a) (hO a) (F.own a (Nat.le_of_lt (List.getElem?_eq_some_iff.mp e).1)) (Int.le_refl _))
        · have pp : 0 < p.2.2 := by
            have : ∀ (a : Nat) (w : Int), ∀ p ∈ aheadL r is O a w, 0 < p.2.2 := fun a => by
              induction a with
              | zero => intro w p mp; cases mp
              | succ a ih =>
                intro w p mp
                unfold aheadL at mp
                split at mp
                · split at mp
                  · rcases List.mem_cons.mp mp with e' | mp
                    · rw [e']; exact hO a
                    · exact ih _ p mp
                  · cases mp
                · cases mp
            exact this _ _ p mp
          exact leF_trans (plusK_pos (F.pos (a + 1))) (plusK_pos (F.pos a)) pp st (ahead_ge F hO a _ p mp)
      · cases mp
    · cases mp
theorem behind_ge {S : Nat → Fr2} (F : Feas r f is O S) (hO : ∀ j, 0 < (O j).2) : ∀ (d a : Nat) (w : Int), a + d = is.length → ∀ p ∈ behindL f O (is.drop a) a w, leF (plusK (S a) w) p.2
  | 0, a, w, h, p, mp => by rw [List.drop_eq_nil_of_le (by omega)] at mp; cases mp
  | d + 1, a, w, h, p, mp => by
    have ha : a < is.length := by omega
    rw [List.drop_eq_getElem_cons ha] at mp
    unfold behindL at mp
    split at mp
    · rename_i li
      have e := List.getElem?_eq_getElem ha
      have st : leF (plusK (S a) w) (plusK (S (a + 1)) (w + chg f is[a])) := by
        have := plusK_mono (F.pos a) (plusK_pos (F.pos (a + 1))) (F.down a _ e li) (Int.le_refl w)
        rw [plusK_plusK, show chg f is[a] + w = w + chg f is[a] by omega] at this
        exact this
      rcases List.mem_cons.mp mp with e' | mp
      · rw [e']
        exact leF_trans (plusK_pos (F.pos a)) (plusK_pos (F.pos (a + 1))) (plusK_pos (hO (a + 1))) st (plusK_mono (F.pos (a + 1)) (hO (a + 1)) (F.own (a + 1) (by omega)) (Int.le_refl _))
      · have pp : 0 < p.2.2 := by
          have : ∀ (is : List Itm) (a : Nat) (w : Int), ∀ p ∈ behindL f O is a w, 0 < p.2.2 := fun is => by
            induction is with
            | nil => intro a w p mp; cases mp
            | cons i is ih =>
              intro a w p mp
              unfold behindL at mp
              split at mp
              · rcases List.mem_cons.mp mp with e' | mp
                · rw [e']; exact hO (a + 1)
                · exact ih _ _ p mp
              · cases mp
          exact this _ _ _ p mp
        exact leF_trans (plusK_pos (F.pos a)) (plusK_pos (F.pos (a + 1))) pp st (behind_ge F hO d (a + 1) _ (by omega) p mp)
    · cases mp
theorem reach_ge {S : Nat → Fr2} (F : Feas r f is O S) (hO : ∀ j, 0 < (O j).2) (b : Nat) (hb : b ≤ is.length) : leF (S b) (reachF r f is O b) :=
  leastL_ge (F.own b hb) fun p mp => by
    rcases List.mem_append.mp mp with m | m
    · have := ahead_ge F hO b 0 p m
      rw [plusK_0] at this; exact this
    · have := behind_ge F hO (is.length - b) b 0 (by omega) p m
      rw [plusK_0] at this; exact this
theorem reach_feas (hO : ∀ j, 0 < (O j).2) (hr : 0 ≤ r) (hf : 0 ≤ f) : Feas r f is O (fun b => if b ≤ is.length then reachF r f is O b else nought) := by
  have np : ∀ b, b ≤ is.length → 0 < (reachF r f is O b).2 := fun b hb => leastL_pos (hO b) (reach_pos hO hr hf b hb)
  have le := fun b (hb : b ≤ is.length) => leastL_le (hO b) (reach_pos (f := f) hO hr hf b hb)
  refine ⟨fun j => ?_, fun j hj => ?_, fun k i e li => ?_, fun k i e li => ?_⟩
  · show 0 < (if j ≤ is.length then reachF r f is O j else nought).2
    split
    · exact np j (by assumption)
    · exact Int.one_pos
  · show leF (if j ≤ is.length then reachF r f is O j else nought) _
    rw [if_pos hj]
    exact (le j hj).1
  · have hk : k < is.length := (List.getElem?_eq_some_iff.mp e).1
    have c1 := chg_nn (i := i) hr
    have c2 := chg_nn (i := i) hf
    show leF (if k + 1 ≤ is.length then reachF r f is O (k + 1) else nought) (plusK (if k ≤ is.length then reachF r f is O k else nought) (chg r i))
    rw [if_pos (by omega), if_pos (by omega)]
    have l1 := le (k + 1) (by omega)
    rw [aheadL_line e li] at l1
    have l1' : ∀ p ∈ (k, plusK (O k) (chg r i)) :: (aheadL r is O k 0).map (shP (chg r i)) ++ behindL f O (is.drop (k + 1)) (k + 1) 0, leF (reachF r f is O (k + 1)) p.2 := fun p mp => by
      have := l1.2 p mp
      rw [← aheadL_line e li] at this; exact this
    have l0 : leF (reachF r f is O (k + 1)) (O (k + 1)) := by
      have := l1.1
      rw [← aheadL_line e li] at this; exact this
    rcases leastL_is (x := O k) (l := aheadL r is O k 0 ++ behindL f O (is.drop k) k 0) with h | ⟨p, mp, h⟩
    · show leF _ (plusK (leastL _ _) _)
      rw [h]
      exact l1' (k, plusK (O k) (chg r i)) List.mem_cons_self
    · show leF _ (plusK (leastL _ _) _)
      rw [h]
      rcases List.mem_append.mp mp with m | m
      · exact l1' (shP (chg r i) p) (List.mem_append_left _ (List.mem_cons_of_mem _ (List.mem_map.mpr ⟨p, m, rfl⟩)))
      · rw [behindL_line e li] at m
        rcases List.mem_cons.mp m with e' | m
        · rw [e']
          show leF _ (plusK (plusK (O (k + 1)) (chg f i)) (chg r i))
          rw [plusK_plusK]
          exact leF_trans (np _ (by omega)) (hO (k + 1)) (hO (k + 1)) l0 (plusK_up (hO (k + 1)) (by omega))
        · obtain ⟨q, mq, rfl⟩ := List.mem_map.mp m
          show leF _ (plusK (plusK q.2 (chg f i)) (chg r i))
          rw [plusK_plusK]
          have qp : 0 < q.2.2 := reach_pos hO hr hf (k + 1) (by omega) q (List.mem_append_right _ mq)
          exact leF_trans (np _ (by omega)) qp qp (l1' q (List.mem_append_right _ mq)) (plusK_up qp (by omega))
  · have hk : k < is.length := (List.getElem?_eq_some_iff.mp e).1
    have c1 := chg_nn (i := i) hr
    have c2 := chg_nn (i := i) hf
    show leF (if k ≤ is.length then reachF r f is O k else nought) (plusK (if k + 1 ≤ is.length then reachF r f is O (k + 1) else nought) (chg f i))
    rw [if_pos (by omega), if_pos (by omega)]
    have l1 := le k (by omega)
    rw [behindL_line e li] at l1
    have l1' : ∀ p ∈ aheadL r is O k 0 ++ (k + 1, plusK (O (k + 1)) (chg f i)) :: (behindL f O (is.drop (k + 1)) (k + 1) 0).map (shP (chg f i)), leF (reachF r f is O k) p.2 := fun p mp => by
      have := l1.2 p mp
      rw [← behindL_line e li] at this; exact this
    have l0 : leF (reachF r f is O k) (O k) := by
      have := l1.1
      rw [← behindL_line e li] at this; exact this
    rcases leastL_is (x := O (k + 1)) (l := aheadL r is O (k + 1) 0 ++ behindL f O (is.drop (k + 1)) (k + 1) 0) with h | ⟨p, mp, h⟩
    · show leF _ (plusK (leastL _ _) _)
      rw [h]
      exact l1' (k + 1, plusK (O (k + 1)) (chg f i)) (List.mem_append_right _ List.mem_cons_self)
    · show leF _ (plusK (leastL _ _) _)
      rw [h]
      rcases List.mem_append.mp mp with m | m
      · rw [aheadL_line e li] at m
        rcases List.mem_cons.mp m with e' | m
        · rw [e']
          show leF _ (plusK (plusK (O k) (chg r i)) (chg f i))
          rw [plusK_plusK]
          exact leF_trans (np _ (by omega)) (hO k) (hO k) l0 (plusK_up (hO k) (by omega))
        · obtain ⟨q, mq, rfl⟩ := List.mem_map.mp m
          show leF _ (plusK (plusK q.2 (chg r i)) (chg f i))
          rw [plusK_plusK]
          have qp : 0 < q.2.2 := reach_pos hO hr hf k (by omega) q (List.mem_append_left _ mq)
          exact leF_trans (np _ (by omega)) qp qp (l1' q (List.mem_append_left _ mq)) (plusK_up qp (by omega))
      · exact l1' (shP (chg f i) p) (List.mem_append_right _ (List.mem_cons_of_mem _ (List.mem_map.mpr ⟨p, m, rfl⟩)))
end
theorem plusK_fq {f : Fr2} {k : Int} (q : Fq f.1 f.2) : Fq (plusK f k).1 (plusK f k).2 := ⟨q.pos, by
  show Int.gcd (f.1 + k * f.2) f.2 = 1
  rw [Int.gcd_add_mul_right_left]; exact q.one⟩
theorem leastL_prop {P : Fr2 → Prop} : ∀ {l : List (Nat × Fr2)} {x : Fr2}, P x → (∀ p ∈ l, P p.2) → P (leastL x l) := fun {l x} h k => by
  rcases leastL_is (l := l) (x := x) with e | ⟨p, mp, e⟩
  · rw [e]; exact h
  · rw [e]; exact k p mp
/-- the plan, border by border -/
theorem planF_reach {ax : Nat} {r f c rate : Int} {is : List Itm} (a0 : 1 ≤ r) (a1 : r ≤ 50) (b0 : 1 ≤ f) (b1 : f ≤ 50) (c0 : 1 ≤ c) (c1 : c ≤ 50) (r1 : 10 ≤ rate) (r2 : rate ≤ 200) (ok : ∀ i ∈ is, OkI ax i) :
    planF r f c rate is = (List.range (is.length + 1)).map (reachF r f is (sqAt (ownsF c rate is))) := by
  have hO : ∀ j, 0 < (sqAt (ownsF c rate is) j).2 := sqAt_pos fun s ms => (ownsF_nn s ms).2
  have hq : ∀ j, j ≤ is.length → Fq (sqAt (ownsF c rate is) j).1 (sqAt (ownsF c rate is) j).2 := fun j hj => (ownsF_bd c0 c1 r1 r2 ok _ (sqAt_mem (by rw [ownsF_len]; omega))).fq
  have sq : ∀ b, b ≤ is.length → sqAt ((List.range (is.length + 1)).map (reachF r f is (sqAt (ownsF c rate is)))) b = reachF r f is (sqAt (ownsF c rate is)) b := fun b hb => by
    unfold sqAt
    rw [List.getD_eq_getElem?_getD, List.getElem?_map, List.getElem?_range (by omega)]
    rfl
  have sqn : ∀ b, sqAt ((List.range (is.length + 1)).map (reachF r f is (sqAt (ownsF c rate is)))) b = if b ≤ is.length then reachF r f is (sqAt (ownsF c rate is)) b else nought := fun b => by
    split
    · rename_i h; exact sq b h
    · rename_i h
      unfold sqAt
      rw [List.getD_eq_getElem?_getD, List.getElem?_eq_none (by simp; omega)]
      rfl
  have Fe : Feas r f is (sqAt (ownsF c rate is)) (sqAt ((List.range (is.length + 1)).map (reachF r f is (sqAt (ownsF c rate is))))) := by
    have := reach_feas (is := is) hO (by omega : 0 ≤ r) (by omega : 0 ≤ f)
    rw [show (fun b => if b ≤ is.length then reachF r f is (sqAt (ownsF c rate is)) b else nought) = sqAt ((List.range (is.length + 1)).map (reachF r f is (sqAt (ownsF c rate is)))) from funext fun b => (sqn b).symm] at this
    exact this
  refine (plan_unique (by omega) (by omega) (fun x mx => (planF_bd a0 a1 b0 b1 c0 c1 r1 r2 ok (Nat.le_refl _) x mx).fq) (fun x mx => ?_) (by simp) Fe fun j hj => ?_).symm
  · obtain ⟨b, mb, rfl⟩ := List.mem_map.mp mx
    have hb := List.mem_range.mp mb
    refine leastL_prop (P := fun x => Fq x.1 x.2) (hq b (by omega)) fun p mp => ?_
    rcases List.mem_append.mp mp with m | m
    · exact aheadL_prop (P := fun x => Fq x.1 x.2) (fun j k hj _ => plusK_fq (hq j (by omega))) (by omega) b 0 (Int.le_refl _) p m
    · exact behindL_prop (P := fun x => Fq x.1 x.2) (n := is.length) (fun j k hj _ => plusK_fq (hq j hj)) (by omega) _ _ 0 (by rw [List.length_drop]; omega) (Int.le_refl _) p m
  · rw [sq j hj]
    exact reach_ge (planF_feas (by omega) (by omega)) hO j hj
end GB
namespace GB
open PySem PySem.Spec PyProof.Rows L2
theorem it_at {is : List Itm} {k : Nat} {i : Itm} (e : is[k]? = some i) : atI (itL is) (k : Int) = some (itT i) := by
  rw [at_nat]; unfold itL; rw [List.getElem?_map, e]; rfl
theorem frL_sq {O : List Fr2} {k : Nat} (h : k < O.length) : atI (frL O) (k : Int) = some (frt (sqAt O k)) := by
  rw [at_nat]; unfold frL; rw [List.getElem?_map, sqAt_get h]; rfl
def ptT (p : Nat × Fr2) : T := .tup [.int p.1, frt p.2]
theorem aheadL_bd {ax : Nat} {r : Int} {is : List Itm} {O : Nat → Fr2} {P : Fr2 → Prop} {K : Int} (hO : ∀ j k, j < is.length → 0 ≤ k → k ≤ K → P (plusK (O j) k)) (r0 : 1 ≤ r) (r1 : r ≤ 50) (ok : ∀ i ∈ is, OkI ax i) :
    ∀ (a : Nat) (w : Int), 0 ≤ w → w + 10000 * (a : Int) ≤ K → ∀ p ∈ aheadL r is O a w, P p.2
  | 0, _, _, _, p, mp => by cases mp
  | a + 1, w, hw, hk, p, mp => by
    unfold aheadL at mp
    split at mp
    · rename_i i e
      have c1 := chg_le r0 r1 (ok i (List.mem_of_getElem? e))
      split at mp
      · rcases List.mem_cons.mp mp with e' | mp
        · rw [e']; exact hO a _ (List.getElem?_eq_some_iff.mp e).1 (by omega) (by omega)
        · exact aheadL_bd hO r0 r1 ok a _ (by omega) (by omega) p mp
      · cases mp
    · cases mp
theorem behindL_bd {ax : Nat} {f : Int} {O : Nat → Fr2} {P : Fr2 → Prop} {n : Nat} {K : Int} (hO : ∀ j k, j ≤ n → 0 ≤ k → k ≤ K → P (plusK (O j) k)) (f0 : 1 ≤ f) (f1 : f ≤ 50) :
    ∀ (is : List Itm) (a : Nat) (w : Int), (∀ i ∈ is, OkI ax i) → a + is.length ≤ n → 0 ≤ w → w + 10000 * (is.length : Int) ≤ K → ∀ p ∈ behindL f O is a w, P p.2
  | [], _, _, _, _, _, _, p, mp => by cases mp
  | i :: is, a, w, ok, hl, hw, hk, p, mp => by
    have c1 := chg_le f0 f1 (ok i List.mem_cons_self)
    rw [List.length_cons] at hl hk
    unfold behindL at mp
    split at mp
    · rcases List.mem_cons.mp mp with e' | mp
      · rw [e']; exact hO (a + 1) _ (by omega) (by omega) (by omega)
      · exact behindL_bd hO f0 f1 is _ _ (fun j mj => ok j (List.mem_cons_of_mem _ mj)) (by omega) (by omega) (by omega) p mp
    · cases mp
theorem aheadL_len {r : Int} {is : List Itm} {O : Nat → Fr2} : ∀ (a : Nat) (w : Int), (aheadL r is O a w).length ≤ a
  | 0, _ => Nat.le_refl _
  | a + 1, w => by
    unfold aheadL
    split
    · split
      · exact Nat.succ_le_succ (aheadL_len a _)
      · exact Nat.zero_le _
    · exact Nat.zero_le _
theorem behindL_len {f : Int} {O : Nat → Fr2} : ∀ (is : List Itm) (a : Nat) (w : Int), (behindL f O is a w).length ≤ is.length
  | [], _, _ => Nat.le_refl _
  | i :: is, a, w => by
    unfold behindL
    split
    · exact Nat.succ_le_succ (behindL_len is _ _)
    · exact Nat.zero_le _
theorem fok_plus {f : Fr2} {k : Int} (h : Fok (10 ^ 13) f) (k0 : 0 ≤ k) (k1 : k ≤ 100000000) : Fok (10 ^ 50) (plusK f k) := by
  have q0 := h.fq.pos
  have kq : k * f.2 ≤ 100000000 * 10 ^ 13 := Int.mul_le_mul k1 h.qm (by omega) (by decide)
  have kq0 : 0 ≤ k * f.2 := Int.mul_nonneg k0 (by omega)
  have := h.lo
  have := h.hi
  have := h.qm
  exact ⟨plusK_fq h.fq, by show -(10 ^ 50) ≤ f.1 + k * f.2; omega, by show f.1 + k * f.2 ≤ 10 ^ 50; omega, by show f.2 ≤ 10 ^ 50; omega⟩
theorem fok_up {f : Fr2} (k : Fok (10 ^ 13) f) : Fok (10 ^ 50) f := ⟨k.fq, by have := k.lo; omega, by have := k.hi; omega, by have := k.qm; omega⟩
/-- a machine, a row, a rate -/
structure DrawnB (m4 : Int) (rs : List Int) (a b c d rate : Int) (is : List Itm) : Prop where
  l2 : 2 ≤ rs.length
  l3 : rs.length ≤ 3
  a0 : 1 ≤ a
  a1 : a ≤ 50
  b0 : 1 ≤ b
  b1 : b ≤ 50
  c0 : 1 ≤ c
  c1 : c ≤ 50
  d0 : 1 ≤ d
  d1 : d ≤ m4
  ok : ∀ i ∈ is, OkI rs.length i
  il : is.length ≤ 20
  r1 : 10 ≤ rate
  r2 : rate ≤ 200
abbrev drT (rs : List Int) (a b c d rate : Int) (is : List Itm) : T := .tup [machT rs a b c d, .tup (itL is), .int rate]
def Drawn (t : T) : Prop := ∃ (rs : List Int) (a b c d rate : Int) (is : List Itm), t = drT rs a b c d rate is ∧ DrawnB 100 rs a b c d rate is
section
variable {pt : Pat} {body : SS} {N : Ev → IH → Prop} {M : T → IH → Prop} {h : IH} {τ : Ev}
theorem ix_forP (I : Nat → Ev → IH → Prop) {us : List T} (h0 : I 0 τ h)
    (step : ∀ k t τ h, us[k]? = some t → I k τ h → ∃ τ1, bindP pt t τ = some τ1 ∧ OkS (body τ1 h) (fun τ2 h2 => I (k + 1) τ2 h2) M) (fin : ∀ τ h, I us.length τ h → N τ h) : OkS (forGo pt body us τ h) N M := by
  refine for_inv (fun vs τ h => ∃ k, k ≤ us.length ∧ vs = us.drop k ∧ I k τ h) ⟨0, Nat.zero_le _, by simp, h0⟩ (fun t vs τ h ⟨k, hk, e, i⟩ => ?_) fun τ h ⟨k, hk, e, i⟩ => ?_
  · have hkn : k < us.length := by
      rcases Nat.lt_or_ge k us.length with q | q
      · exact q
      · rw [List.drop_eq_nil_of_le q] at e; cases e
    rw [List.drop_eq_getElem_cons hkn] at e
    have et := (List.cons.inj e).1
    have eu := (List.cons.inj e).2
    obtain ⟨τ1, e1, o⟩ := step k t τ h (by rw [List.getElem?_eq_getElem hkn, et]) i
    exact ⟨τ1, e1, o.imp (fun τ2 h2 q => ⟨k + 1, hkn, eu, q⟩) fun _ _ q => q⟩
  · have : k = us.length := by
      rcases Nat.lt_or_ge k us.length with q | q
      · rw [List.drop_eq_getElem_cons q] at e; cases e
      · exact Nat.le_antisymm hk q
    rw [← this] at fin; exact fin τ h i
theorem enum_forP (I : Nat → Ev → IH → Prop) {ts : List T} (h0 : I 0 τ h)
    (step : ∀ k t τ h, ts[k]? = some t → I k τ h → ∃ τ1, bindP pt (.tup [.int (k : Int), t]) τ = some τ1 ∧ OkS (body τ1 h) (fun τ2 h2 => I (k + 1) τ2 h2) M) (fin : ∀ τ h, I ts.length τ h → N τ h) : OkS (forGo pt body (enumL ts) τ h) N M :=
  ix_forP I h0 (fun k t τ h e i => by
    obtain ⟨u, hu, rfl⟩ := enumL_get e
    exact step k u τ h hu i) fun τ h i => fin τ h (by rw [enumL_len] at i; exact i)
end
theorem q_gEnT {ts : List T} {h : IH} : gEnT (.tup ts) h = some (enumL ts) := rfl
theorem zip_sq {S O : List Fr2} : ∀ p ∈ S.zip O, ∃ j, j < S.length ∧ j < O.length ∧ p = (sqAt S j, sqAt O j) := fun p mp => by
  obtain ⟨j, hj, e⟩ := List.mem_iff_getElem.mp mp
  rw [List.length_zip] at hj
  have h1 : j < S.length := by omega
  have h2 : j < O.length := by omega
  refine ⟨j, h1, h2, ?_⟩
  rw [← e, List.getElem_zip]
  have e1 : S[j] = sqAt S j := Option.some.inj ((List.getElem?_eq_getElem h1).symm.trans (sqAt_get h1))
  have e2 : O[j] = sqAt O j := Option.some.inj ((List.getElem?_eq_getElem h2).symm.trans (sqAt_get h2))
  rw [e1, e2]
theorem ne_frt {f : Fr2} {h : IH} : gNe (frt f) (frt f) h = some (.bl false) := q_neR (k := 1) (by decide) rfl
theorem itL_get {is : List Itm} {k : Nat} {t : T} (e : (itL is)[k]? = some t) : ∃ i, is[k]? = some i ∧ t = itT i := by
  unfold itL at e
  rw [List.getElem?_map] at e
  obtain ⟨i, h1, h2⟩ := Option.map_eq_some_iff.mp e
  exact ⟨i, h1, h2.symm⟩
end GB
namespace GB
open PySem PySem.Spec PyProof.Rows L2
/-! ### trees without truths: == tells whether they are the same -/
mutual
def clT : T → Bool
  | .non => true
  | .bl _ => false
  | .int _ => true
  | .str _ => true
  | .tup ts => clL ts
  | .lst ts => clL ts
  | .box _ => false
def clL : List T → Bool
  | [] => true
  | t :: ts => clT t && clL ts
end
mutual
theorem eqv_cl : ∀ (x y : T) (d e : PyData), clT x = true → clT y = true → py0 x = some d → py0 y = some e → PyData.eqv d e = true → x = y
  | .non, y, d, e, cx, cy, hx, hy, h => by
    cases hx
    cases y with
    | non => rfl
    | bl _ => cases cy
    | int _ => cases hy; rw [PyData.eqv.eq_def] at h; cases h
    | str _ => cases hy; rw [PyData.eqv.eq_def] at h; cases h
    | tup ys => obtain ⟨ds, _, rfl⟩ := Option.map_eq_some_iff.mp (show (pyL ys).map PyData.tuple = some e from hy); rw [PyData.eqv.eq_def] at h; cases h
    | lst ys => obtain ⟨ds, _, rfl⟩ := Option.map_eq_some_iff.mp (show (pyL ys).map PyData.list = some e from hy); rw [PyData.eqv.eq_def] at h; cases h
    | box _ => cases cy
  | .bl _, _, _, _, cx, _, _, _, _ => by cases cx
  | .box _, _, _, _, cx, _, _, _, _ => by cases cx
  | .int i, y, d, e, cx, cy, hx, hy, h => by
    cases hx
    cases y with
    | non => cases hy; rw [PyData.eqv.eq_def] at h; cases h
    | bl _ => cases cy
    | int j => cases hy; rw [PyData.eqv.eq_def] at h; rw [beq_iff_eq.mp h]
    | str _ => cases hy; rw [PyData.eqv.eq_def] at h; cases h
    | tup ys => obtain ⟨ds, _, rfl⟩ := Option.map_eq_some_iff.mp (show (pyL ys).map PyData.tuple = some e from hy); rw [PyData.eqv.eq_def] at h; cases h
    | lst ys => obtain ⟨ds, _, rfl⟩ := Option.map_eq_some_iff.mp (show (pyL ys).map PyData.list = some e from hy); rw [PyData.eqv.eq_def] at h; cases h
    | box _ => cases cy
  | .str s, y, d, e, cx, cy, hx, hy, h => by
    cases hx
    cases y with
    | non => cases hy; rw [PyData.eqv.eq_def] at h; cases h
    | bl _ => cases cy
    | int j => cases hy; rw [PyData.eqv.eq_def] at h; cases h
    | str z => cases hy; rw [PyData.eqv.eq_def] at h; rw [show s = z from LawfulBEq.eq_of_beq h]
    | tup ys => obtain ⟨ds, _, rfl⟩ := Option.map_eq_some_iff.mp (show (pyL ys).map PyData.tuple = some e from hy); rw [PyData.eqv.eq_def] at h; cases h
    | lst ys => obtain ⟨ds, _, rfl⟩ := Option.map_eq_some_iff.mp (show (pyL ys).map PyData.list = some e from hy); rw [PyData.eqv.eq_def] at h; cases h
    | box _ => cases cy
  | .tup xs, y, d, e, cx, cy, hx, hy, h => by
    obtain ⟨ds, hd, rfl⟩ := Option.map_eq_some_iff.mp (show (pyL xs).map PyData.tuple = some d from hx)
    cases y with
    | non => cases hy; rw [PyData.eqv.eq_def] at h; cases h
    | bl _ => cases cy
    | int j => cases hy; rw [PyData.eqv.eq_def] at h; cases h
    | str z => cases hy; rw [PyData.eqv.eq_def] at h; cases h
    | tup ys =>
      obtain ⟨es, he, rfl⟩ := Option.map_eq_some_iff.mp (show (pyL ys).map PyData.tuple = some e from hy)
      rw [PyData.eqv.eq_def] at h
      rw [eqv_clL xs ys ds es cx cy hd he h]
    | lst ys => obtain ⟨es, _, rfl⟩ := Option.map_eq_some_iff.mp (show (pyL ys).map PyData.list = some e from hy); rw [PyData.eqv.eq_def] at h; cases h
    | box _ => cases cy
  | .lst xs, y, d, e, cx, cy, hx, hy, h => by
    obtain ⟨ds, hd, rfl⟩ := Option.map_eq_some_iff.mp (show (pyL xs).map PyData.list = some d from hx)
    cases y with
    | non => cases hy; rw [PyData.eqv.eq_def] at h; cases h
    | bl _ => cases cy
    | int j => cases hy; rw [PyData.eqv.eq_def] at h; cases h
    | str z => cases hy; rw [PyData.eqv.eq_def] at h; cases h
    | tup ys => obtain ⟨es, _, rfl⟩ := Option.map_eq_some_iff.mp (show (pyL ys).map PyData.tuple = some e from hy); rw [PyData.eqv.eq_def] at h; cases h
    | lst ys =>
      obtain ⟨es, he, rfl⟩ := Option.map_eq_some_iff.mp (show (pyL ys).map PyData.list = some e from hy)
      rw [PyData.eqv.eq_def] at h
      rw [eqv_clL xs ys ds es cx cy hd he h]
    | box _ => cases cy
theorem eqv_clL : ∀ (x y : List T) (d e : List PyData), clL x = true → clL y = true → pyL x = some d → pyL y = some e → PyData.eqvAll d e = true → x = y
  | [], y, d, e, cx, cy, hx, hy, h => by
    cases hx
    cases y with
    | nil => rfl
    | cons t ts =>
      have e' : (match py0 t, pyL ts with | some d, some ds => some (d :: ds) | _, _ => none) = some e := hy
      split at e'
      · cases e'; simp [PyData.eqvAll] at h
      · cases e'
  | x :: xs, y, d, e, cx, cy, hx, hy, h => by
    have d' : (match py0 x, pyL xs with | some d, some ds => some (d :: ds) | _, _ => none) = some d := hx
    split at d'
    · rename_i d1 ds h1 h2
      cases d'
      cases y with
      | nil => cases hy; simp [PyData.eqvAll] at h
      | cons t ts =>
        have e' : (match py0 t, pyL ts with | some d, some ds => some (d :: ds) | _, _ => none) = some e := hy
        split at e'
        · rename_i e1 es h3 h4
          cases e'
          rw [PyData.eqvAll, Bool.and_eq_true] at h
          simp only [clL, Bool.and_eq_true] at cx cy
          rw [eqv_cl x t d1 e1 cx.1 cy.1 h1 h3 h.1, eqv_clL xs ts ds es cx.2 cy.2 h2 h4 h.2]
        · cases e'
    · cases d'
end
section
variable {h : IH} {x y : T} {k l : Nat}
theorem pyH_0 (e : shT k x = true) : pyH h x = py0 x := by
  cases x with
  | box n => cases k <;> simp [shT] at e
  | _ => rfl
theorem eq_no {neg : Bool} (hk : k ≤ 64) (hl : l ≤ 64) (ex : shT k x = true) (ey : shT l y = true) (cx : clT x = true) (cy : clT y = true) (n : x ≠ y) : gEqB neg x y h = some (.bl neg) := by
  obtain ⟨d, h1, h2⟩ := sh_shaped (h := h) hk ex
  obtain ⟨e, h3, h4⟩ := sh_shaped (h := h) hl ey
  show (match pyH h x, pyH h y with | some d, some e => if (SeqAt.shaped d && SeqAt.shaped e) = true then some (T.bl (neg ^^ PyData.eqv d e)) else none | _, _ => none) = _
  rw [h1, h3]
  show (if (SeqAt.shaped d && SeqAt.shaped e) = true then some (T.bl (neg ^^ PyData.eqv d e)) else none) = _
  rw [pyH_0 ex] at h1
  rw [pyH_0 ey] at h3
  have : PyData.eqv d e = false := by
    cases q : PyData.eqv d e with
    | false => rfl
    | true => exact absurd (eqv_cl x y d e cx cy h1 h3 q) n
  rw [h2, h4, this]
  simp
theorem q_eqF (hk : k ≤ 64) (hl : l ≤ 64) (ex : shT k x = true) (ey : shT l y = true) (cx : clT x = true) (cy : clT y = true) (n : x ≠ y) : gEq x y h = some (.bl false) := eq_no hk hl ex ey cx cy n
theorem q_neF (hk : k ≤ 64) (hl : l ≤ 64) (ex : shT k x = true) (ey : shT l y = true) (cx : clT x = true) (cy : clT y = true) (n : x ≠ y) : gNe x y h = some (.bl true) := eq_no hk hl ex ey cx cy n
end
theorem frt_inj {a b : Fr2} (e : frt a = frt b) : a = b := by
  injection e with e
  injection e with e1 e
  injection e with e2 e
  injection e1 with e1
  injection e2 with e2
  exact Prod.ext e1 e2
theorem eq_frt {a b : Fr2} {h : IH} : gEq (frt a) (frt b) h = some (.bl (decide (a = b))) := by
  by_cases e : a = b
  · rw [decide_eq_true e, e]; exact q_eqR (k := 1) (by decide) rfl
  · rw [decide_eq_false e]
    exact q_eqF (k := 1) (l := 1) (by decide) (by decide) rfl rfl rfl rfl fun z => e (frt_inj z)
theorem nef_frt {a b : Fr2} {h : IH} : gNe (frt a) (frt b) h = some (.bl (!decide (a = b))) := by
  by_cases e : a = b
  · rw [decide_eq_true e, e]; exact q_neR (k := 1) (by decide) rfl
  · rw [decide_eq_false e]
    exact q_neF (k := 1) (l := 1) (by decide) (by decide) rfl rfl rfl rfl fun z => e (frt_inj z)
/-! ### reasons -/
def isSq (q : Fr2) (p : Nat × Fr2) : Bool := decide (p.2 = q)
theorem find_cons {q : Fr2} {p : Nat × Fr2} {l : List (Nat × Fr2)} : (p :: l).find? (isSq q) = if p.2 = q then some p else l.find? (isSq q) := by
  by_cases e : p.2 = q
  · rw [if_pos e, List.find?_cons_of_pos (show isSq q p = true from decide_eq_true e)]
  · rw [if_neg e, List.find?_cons_of_neg (by rw [show isSq q p = false from decide_eq_false e]; decide)]
def reasonL (q : Fr2) (b : Nat) (o : Fr2) (u d : List (Nat × Fr2)) : T :=
  if q = o then .tup [.str "own", .int (b : Int)] else
    match u.find? (isSq q) with
    | some p => .tup [.str "rise", .int (p.1 : Int)]
    | none => match d.find? (isSq q) with
      | some p => .tup [.str "fall", .int (p.1 : Int)]
      | none => .tup [.str "fall", .non]
def reasonF (r f c rate : Int) (is : List Itm) (b : Nat) : T :=
  reasonL (sqAt (planF r f c rate is) b) b (sqAt (ownsF c rate is) b) (aheadL r is (sqAt (ownsF c rate is)) b 0) (behindL f (sqAt (ownsF c rate is)) (is.drop b) b 0)
theorem planF_sq {ax : Nat} {r f c rate : Int} {is : List Itm} (a0 : 1 ≤ r) (a1 : r ≤ 50) (b0 : 1 ≤ f) (b1 : f ≤ 50) (c0 : 1 ≤ c) (c1 : c ≤ 50) (r1 : 10 ≤ rate) (r2 : rate ≤ 200) (ok : ∀ i ∈ is, OkI ax i) {b : Nat} (hb : b ≤ is.length) :
    sqAt (planF r f c rate is) b = reachF r f is (sqAt (ownsF c rate is)) b := by
  rw [planF_reach a0 a1 b0 b1 c0 c1 r1 r2 ok]
  unfold sqAt
  rw [List.getD_eq_getElem?_getD, List.getElem?_map, List.getElem?_range (by omega)]
  rfl
/-- one of the three is always so -/
theorem reason_there {ax : Nat} {r f c rate : Int} {is : List Itm} (a0 : 1 ≤ r) (a1 : r ≤ 50) (b0 : 1 ≤ f) (b1 : f ≤ 50) (c0 : 1 ≤ c) (c1 : c ≤ 50) (r1 : 10 ≤ rate) (r2 : rate ≤ 200) (ok : ∀ i ∈ is, OkI ax i) {b : Nat} (hb : b ≤ is.length)
    (n1 : sqAt (planF r f c rate is) b ≠ sqAt (ownsF c rate is) b) (n2 : (aheadL r is (sqAt (ownsF c rate is)) b 0).find? (isSq (sqAt (planF r f c rate is) b)) = none) :
    ∃ p, (behindL f (sqAt (ownsF c rate is)) (is.drop b) b 0).find? (isSq (sqAt (planF r f c rate is) b)) = some p := by
  have e := planF_sq a0 a1 b0 b1 c0 c1 r1 r2 ok hb
  rcases leastL_is (x := sqAt (ownsF c rate is) b) (l := aheadL r is (sqAt (ownsF c rate is)) b 0 ++ behindL f (sqAt (ownsF c rate is)) (is.drop b) b 0) with h | ⟨p, mp, h⟩
  · exact absurd (e.trans h) n1
  · have hp : isSq (sqAt (planF r f c rate is) b) p = true := decide_eq_true ((e.trans h).symm)
    rcases List.mem_append.mp mp with m | m
    · have := List.find?_eq_none.mp n2 p m
      exact absurd hp this
    · cases q : (behindL f (sqAt (ownsF c rate is)) (is.drop b) b 0).find? (isSq (sqAt (planF r f c rate is) b)) with
      | some p => exact ⟨p, rfl⟩
      | none => exact absurd hp (List.find?_eq_none.mp q p m)
/-! ### a row in two pieces -/
section
variable {c rate : Int} {A B : List Itm} {o : Itm}
theorem own_non {a b : Itm} (h : isL a = false ∨ isL b = false) : ownF c rate a b = nought := by
  unfold ownF
  split
  · rcases h with h | h <;> cases h
  · rfl
theorem sqAt_own {is : List Itm} {j : Nat} (h : j ≤ is.length) : sqAt (ownsF c rate is) j = ownAt c rate is j := by
  rw [ownsF_at]
  unfold sqAt
  rw [List.getD_eq_getElem?_getD, List.getElem?_map, List.getElem?_range (by omega)]
  rfl
theorem piece_left (ho : isL o = false) {j : Nat} (h : j ≤ A.length) : ownAt c rate (A ++ o :: B) j = ownAt c rate A j := by
  rcases Nat.lt_or_ge j A.length with q | q
  · exact ownAt_app q
  · have e : j = A.length := by omega
    subst e
    rw [ownAt_last]
    cases ea : A.length with
    | zero => rfl
    | succ n =>
      unfold ownAt
      simp only []
      rw [show (A ++ o :: B)[n + 1]? = some o from by rw [List.getElem?_append_right (by omega), ea, Nat.sub_self]; rfl]
      split
      · rename_i h1 h2
        cases h2
        exact own_non (.inr ho)
      · rfl
theorem piece_right (ho : isL o = false) {j : Nat} : ownAt c rate (A ++ o :: B) (A.length + 1 + j) = ownAt c rate B j := by
  cases j with
  | zero =>
    unfold ownAt
    simp only [Nat.add_zero]
    rw [List.getElem?_append_right (Nat.le_refl _), Nat.sub_self]
    simp only [List.getElem?_cons_zero]
    split
    · rename_i h1 h2
      cases h1
      exact own_non (.inl ho)
    · rfl
  | succ j =>
    rw [show A.length + 1 + (j + 1) = (A.length + 1 + j) + 1 by omega]
    unfold ownAt
    simp only []
    rw [List.getElem?_append_right (by omega), List.getElem?_append_right (by omega), show A.length + 1 + j - A.length = j + 1 by omega, show A.length + 1 + j + 1 - A.length = (j + 1) + 1 by omega]
    simp only [List.getElem?_cons_succ]
theorem owns_pieces (ho : isL o = false) : ownsF c rate (A ++ o :: B) = ownsF c rate A ++ ownsF c rate B := by
  refine list_sq_eq (by simp [ownsF_len]; omega) fun j hj => ?_
  rw [ownsF_len, List.length_append, List.length_cons] at hj
  rw [sqAt_own (by rw [List.length_append, List.length_cons]; omega)]
  rcases Nat.lt_or_ge j (A.length + 1) with q | q
  · rw [piece_left ho (by omega), ← sqAt_own (c := c) (rate := rate) (is := A) (by omega)]
    unfold sqAt
    rw [List.getD_eq_getElem?_getD, List.getD_eq_getElem?_getD, List.getElem?_append_left (by rw [ownsF_len]; exact q)]
  · obtain ⟨i, rfl⟩ : ∃ i, j = A.length + 1 + i := ⟨j - (A.length + 1), by omega⟩
    rw [piece_right ho, ← sqAt_own (c := c) (rate := rate) (is := B) (by omega)]
    unfold sqAt
    rw [List.getD_eq_getElem?_getD, List.getD_eq_getElem?_getD, List.getElem?_append_right (by rw [ownsF_len]; omega), ownsF_len, show A.length + 1 + i - (A.length + 1) = i by omega]
theorem sq_left {j : Nat} {X Y : List Fr2} (h : j < X.length) : sqAt (X ++ Y) j = sqAt X j := by
  unfold sqAt
  rw [List.getD_eq_getElem?_getD, List.getD_eq_getElem?_getD, List.getElem?_append_left h]
theorem sq_right {j n : Nat} {X Y : List Fr2} (h : X.length = n) : sqAt (X ++ Y) (n + j) = sqAt Y j := by
  unfold sqAt
  rw [List.getD_eq_getElem?_getD, List.getD_eq_getElem?_getD, List.getElem?_append_right (by omega), show n + j - X.length = j by omega]
variable {X Y : List Fr2} {r f : Int}
theorem ahead_left (h : X.length = A.length + 1) : ∀ (b : Nat) (w : Int), b ≤ A.length → aheadL r (A ++ B) (sqAt (X ++ Y)) b w = aheadL r A (sqAt X) b w
  | 0, _, _ => rfl
  | b + 1, w, hb => by
    unfold aheadL
    rw [List.getElem?_append_left (by omega), sq_left (by omega)]
    split
    · rw [ahead_left h b _ (by omega)]
    · rfl
theorem ahead_right (h : X.length = A.length + 1) (ho : isL o = false) : ∀ (b : Nat) (w : Int), b ≤ B.length → aheadL r (A ++ o :: B) (sqAt (X ++ Y)) (A.length + 1 + b) w = (aheadL r B (sqAt Y) b w).map fun p => (A.length + 1 + p.1, p.2)
  | 0, w, hb => by
    show aheadL r (A ++ o :: B) (sqAt (X ++ Y)) (A.length + 1) w = []
    unfold aheadL
    rw [List.getElem?_append_right (Nat.le_refl _), Nat.sub_self]
    simp only [List.getElem?_cons_zero]
    rw [ho]; rfl
  | b + 1, w, hb => by
    rw [show A.length + 1 + (b + 1) = (A.length + 1 + b) + 1 by omega]
    unfold aheadL
    rw [List.getElem?_append_right (by omega), show A.length + 1 + b - A.length = b + 1 by omega, List.getElem?_cons_succ, sq_right h]
    split
    · split
      · rw [ahead_right h ho b _ (by omega), List.map_cons]
      · rfl
    · rfl
theorem behind_left (h : X.length = A.length + 1) (ho : isL o = false) : ∀ (d b : Nat) (w : Int), b + d = A.length → behindL f (sqAt (X ++ Y)) ((A ++ o :: B).drop b) b w = behindL f (sqAt X) (A.drop b) b w
  | 0, b, w, e => by
    rw [List.drop_append_of_le_length (by omega), List.drop_eq_nil_of_le (as := A) (by omega)]
    show behindL f (sqAt (X ++ Y)) (o :: B) b w = []
    unfold behindL
    rw [ho]; rfl
  | d + 1, b, w, e => by
    have hb : b < A.length := by omega
    rw [List.drop_append_of_le_length (by omega), List.drop_eq_getElem_cons hb, List.cons_append]
    unfold behindL
    rw [sq_left (by omega)]
    have := behind_left h ho d (b + 1) (w + chg f A[b]) (by omega)
    rw [List.drop_append_of_le_length (by omega)] at this
    rw [this]
theorem behind_right (h : X.length = A.length + 1) : ∀ (d b : Nat) (w : Int), b + d = B.length → behindL f (sqAt (X ++ Y)) ((A ++ o :: B).drop (A.length + 1 + b)) (A.length + 1 + b) w = (behindL f (sqAt Y) (B.drop b) b w).map fun p => (A.length + 1 + p.1, p.2)
  | 0, b, w, e => by
    rw [List.drop_eq_nil_of_le (as := B) (by omega), List.drop_eq_nil_of_le (by simp; omega)]
    rfl
  | d + 1, b, w, e => by
    have hb : b < B.length := by omega
    have hd : (A ++ o :: B).drop (A.length + 1 + b) = B.drop b := by
      rw [show A ++ o :: B = (A ++ [o]) ++ B by simp, ← List.drop_drop, List.drop_left' (by simp)]
    rw [hd, List.drop_eq_getElem_cons hb]
    unfold behindL
    have := behind_right h d (b + 1) (w + chg f B[b]) (by omega)
    have hd2 : (A ++ o :: B).drop (A.length + 1 + (b + 1)) = B.drop (b + 1) := by
      rw [show A ++ o :: B = (A ++ [o]) ++ B by simp, ← List.drop_drop, List.drop_left' (by simp)]
    rw [hd2] at this
    rw [show A.length + 1 + b + 1 = A.length + 1 + (b + 1) by omega, sq_right h, this]
    split
    · rw [List.map_cons]
    · rfl
theorem leastL_map {g : Nat → Nat} : ∀ {l : List (Nat × Fr2)} {x : Fr2}, leastL x (l.map fun p => (g p.1, p.2)) = leastL x l
  | [], _ => rfl
  | p :: l, x => leastL_map (l := l) (x := lesserF x p.2)
theorem reach_left (h : X.length = A.length + 1) (ho : isL o = false) {b : Nat} (hb : b ≤ A.length) : reachF r f (A ++ o :: B) (sqAt (X ++ Y)) b = reachF r f A (sqAt X) b := by
  unfold reachF
  rw [ahead_left h b 0 hb, behind_left h ho (A.length - b) b 0 (by omega), sq_left (by omega)]
theorem reach_right (h : X.length = A.length + 1) (ho : isL o = false) {b : Nat} (hb : b ≤ B.length) : reachF r f (A ++ o :: B) (sqAt (X ++ Y)) (A.length + 1 + b) = reachF r f B (sqAt Y) b := by
  unfold reachF
  rw [ahead_right h ho b 0 hb, behind_right h (B.length - b) b 0 (by omega), sq_right h, ← List.map_append, leastL_map]
end
theorem plan_pieces {ax : Nat} {r f c rate : Int} {A B : List Itm} {o : Itm} (a0 : 1 ≤ r) (a1 : r ≤ 50) (b0 : 1 ≤ f) (b1 : f ≤ 50) (c0 : 1 ≤ c) (c1 : c ≤ 50) (r1 : 10 ≤ rate) (r2 : rate ≤ 200) (okA : ∀ i ∈ A, OkI ax i) (okB : ∀ i ∈ B, OkI ax i) (ho : isL o = false) :
    planF r f c rate (A ++ o :: B) = planF r f c rate A ++ planF r f c rate B := by
  have oko : OkI ax o := by
    cases o with
    | line xs s => cases ho
    | _ => trivial
  have ok : ∀ i ∈ A ++ o :: B, OkI ax i := fun i mi => by
    rcases List.mem_append.mp mi with m | m
    · exact okA i m
    · rcases List.mem_cons.mp m with e | m
      · rw [e]; exact oko
      · exact okB i m
  refine list_sq_eq (by simp [planF_len]; omega) fun j hj => ?_
  rw [planF_len, List.length_append, List.length_cons] at hj
  rw [planF_sq a0 a1 b0 b1 c0 c1 r1 r2 ok (by rw [List.length_append, List.length_cons]; omega), owns_pieces ho]
  rcases Nat.lt_or_ge j (A.length + 1) with q | q
  · rw [reach_left ownsF_len ho (by omega), sq_left (by rw [planF_len]; exact q), planF_sq a0 a1 b0 b1 c0 c1 r1 r2 okA (by omega)]
  · obtain ⟨i, rfl⟩ : ∃ i, j = A.length + 1 + i := ⟨j - (A.length + 1), by omega⟩
    rw [reach_right ownsF_len ho (by omega), sq_right planF_len, planF_sq a0 a1 b0 b1 c0 c1 r1 r2 okB (by omega)]
theorem reasonL_sh {q o : Fr2} {b n : Nat} {u d : List (Nat × Fr2)} : ∀ {k : Str} {a : Nat}, reasonL q b o u d = .tup [.str k, .int (a : Int)] → reasonL q (n + b) o (u.map fun p => (n + p.1, p.2)) (d.map fun p => (n + p.1, p.2)) = .tup [.str k, .int ((n + a : Nat) : Int)] := by
  intro k a h
  unfold reasonL at h ⊢
  have fm : ∀ l : List (Nat × Fr2), (l.map fun p => (n + p.1, p.2)).find? (isSq q) = (l.find? (isSq q)).map fun p => (n + p.1, p.2) := fun l => by
    rw [List.find?_map]; rfl
  rw [fm, fm]
  split at h
  · rename_i z
    rw [if_pos z]
    injection h with h
    injection h with h1 h
    injection h with h2 h
    injection h1 with h1
    injection h2 with h2
    rw [h1, show b = a by omega]
  · rename_i z
    rw [if_neg z]
    cases e : u.find? (isSq q) with
    | some p =>
      rw [e] at h
      injection h with h
      injection h with h1 h
      injection h with h2 h
      injection h1 with h1
      injection h2 with h2
      show T.tup [.str "rise", .int ((n + p.1 : Nat) : Int)] = _
      rw [h1, show p.1 = a by omega]
    | none =>
      rw [e] at h
      cases e2 : d.find? (isSq q) with
      | some p =>
        rw [e2] at h
        injection h with h
        injection h with h1 h
        injection h with h2 h
        injection h1 with h1
        injection h2 with h2
        show T.tup [.str "fall", .int ((n + p.1 : Nat) : Int)] = _
        rw [h1, show p.1 = a by omega]
      | none =>
        rw [e2] at h
        injection h with h
        injection h with h1 h
        injection h with h2 h
        cases h2
end GB
namespace GB
open PySem PySem.Spec PyProof.Rows L2
/-! ### squares lowered along lines, again and again -/
def relU (r : Int) (i : Itm) (k : Nat) (S : List Fr2) : List Fr2 := S.set (k + 1) (lesserF (sqAt S (k + 1)) (plusK (sqAt S k) (chg r i)))
def relD (f : Int) (i : Itm) (k : Nat) (S : List Fr2) : List Fr2 := S.set k (lesserF (sqAt S k) (plusK (sqAt S (k + 1)) (chg f i)))
theorem sq_set {S : List Fr2} {i j : Nat} {x : Fr2} (h : i < S.length) : sqAt (S.set i x) j = if j = i then x else sqAt S j := by
  unfold sqAt
  rw [List.getD_eq_getElem?_getD, List.getD_eq_getElem?_getD]
  split
  · rename_i e
    subst e
    rw [List.getElem?_set_self h]; rfl
  · rename_i e
    rw [List.getElem?_set_ne (Ne.symm e)]
theorem frL_set {S : List Fr2} {i : Nat} {x : Fr2} : (frL S).set i (frt x) = frL (S.set i x) := by
  unfold frL
  rw [List.map_set]
structure Low (r f : Int) (is : List Itm) (S0 S : List Fr2) : Prop where
  len : S.length = is.length + 1
  fq : ∀ j, j ≤ is.length → Fq (sqAt S j).1 (sqAt S j).2
  nn : ∀ j, j ≤ is.length → 0 ≤ (sqAt S j).1
  qm : ∀ j, j ≤ is.length → (sqAt S j).2 ≤ 10 ^ 14
  le : ∀ j, j ≤ is.length → leF (sqAt S j) (sqAt S0 j)
  low : ∀ j, j ≤ is.length → leF (reachF r f is (sqAt S0) j) (sqAt S j)
section
variable {r f : Int} {is : List Itm} {S0 S : List Fr2}
theorem Low.pos (L : Low r f is S0 S) {j : Nat} (h : j ≤ is.length) : 0 < (sqAt S j).2 := (L.fq j h).pos
theorem Low.ok (L : Low r f is S0 S) (h0 : ∀ j, j ≤ is.length → (sqAt S0 j).1 ≤ 10 ^ 14 ∧ 0 < (sqAt S0 j).2) {j : Nat} (h : j ≤ is.length) : Fok (10 ^ 50) (sqAt S j) ∧ (sqAt S j).1 ≤ 10 ^ 28 := by
  have a := L.le j h
  have n := L.nn j h
  have q := L.qm j h
  have p := L.pos h
  obtain ⟨b1, b2⟩ := h0 j h
  unfold leF at a
  have c1 : (sqAt S j).1 * 1 ≤ (sqAt S j).1 * (sqAt S0 j).2 := Int.mul_le_mul_of_nonneg_left b2 n
  have c2 : (sqAt S0 j).1 * (sqAt S j).2 ≤ 10 ^ 14 * 10 ^ 14 := by
    rcases Int.le_total 0 (sqAt S0 j).1 with z | z
    · exact Int.mul_le_mul b1 q (by omega) (by decide)
    · have := Int.mul_nonpos_of_nonpos_of_nonneg z (by omega : 0 ≤ (sqAt S j).2)
      omega
  exact ⟨⟨L.fq j h, by omega, by omega, by omega⟩, by omega⟩
theorem rel_low {k : Nat} {i : Itm} (L : Low r f is S0 S) (hr : 0 ≤ r) (hf : 0 ≤ f) (p0 : ∀ j, 0 < (sqAt S0 j).2) (e : is[k]? = some i) (li : isL i = true) :
    Low r f is S0 (relD f i k (relU r i k S)) ∧ (∀ j, j ≤ is.length → leF (sqAt (relD f i k (relU r i k S)) j) (sqAt S j)) ∧ leF (sqAt (relD f i k (relU r i k S)) (k + 1)) (plusK (sqAt S k) (chg r i)) ∧ leF (sqAt (relD f i k (relU r i k S)) k) (plusK (sqAt S (k + 1)) (chg f i)) := by
  have hk : k < is.length := (List.getElem?_eq_some_iff.mp e).1
  have c1 := chg_nn (i := i) hr
  have c2 := chg_nn (i := i) hf
  have ll := L.len
  have l1 : (relU r i k S).length = is.length + 1 := by unfold relU; rw [List.length_set]; exact ll
  have u1 : ∀ j, sqAt (relU r i k S) j = if j = k + 1 then lesserF (sqAt S (k + 1)) (plusK (sqAt S k) (chg r i)) else sqAt S j := fun j => sq_set (by omega)
  have u2 : ∀ j, sqAt (relD f i k (relU r i k S)) j = if j = k then lesserF (sqAt (relU r i k S) k) (plusK (sqAt (relU r i k S) (k + 1)) (chg f i)) else sqAt (relU r i k S) j := fun j => sq_set (by omega)
  have vk : sqAt (relU r i k S) k = sqAt S k := by rw [u1, if_neg (by omega)]
  have vk1 : sqAt (relU r i k S) (k + 1) = lesserF (sqAt S (k + 1)) (plusK (sqAt S k) (chg r i)) := by rw [u1, if_pos rfl]
  rw [vk, vk1] at u2
  have pk := L.pos (j := k) (by omega)
  have pk1 := L.pos (j := k + 1) (by omega)
  have wk1 : sqAt (relD f i k (relU r i k S)) (k + 1) = lesserF (sqAt S (k + 1)) (plusK (sqAt S k) (chg r i)) := by rw [u2, if_neg (by omega), vk1]
  have wk : sqAt (relD f i k (relU r i k S)) k = lesserF (sqAt S k) (plusK (lesserF (sqAt S (k + 1)) (plusK (sqAt S k) (chg r i))) (chg f i)) := by rw [u2, if_pos rfl]
  have wo : ∀ j, j ≠ k → j ≠ k + 1 → sqAt (relD f i k (relU r i k S)) j = sqAt S j := fun j h1 h2 => by rw [u2, if_neg h1, u1, if_neg h2]
  have pl : 0 < (lesserF (sqAt S (k + 1)) (plusK (sqAt S k) (chg r i))).2 := lesserF_pos pk1 pk
  -- what holds of both and of what is lowered
  have all : ∀ P : Fr2 → Prop, (∀ j, j ≤ is.length → P (sqAt S j)) → (∀ x y, P x → P y → P (lesserF x y)) → P (plusK (sqAt S k) (chg r i)) → (P (lesserF (sqAt S (k + 1)) (plusK (sqAt S k) (chg r i))) → P (plusK (lesserF (sqAt S (k + 1)) (plusK (sqAt S k) (chg r i))) (chg f i))) → ∀ j, j ≤ is.length → P (sqAt (relD f i k (relU r i k S)) j) := fun P h1 h2 h3 h4 j hj => by
    by_cases a : j = k
    · rw [a, wk]
      exact h2 _ _ (h1 k (by omega)) (h4 (h2 _ _ (h1 (k + 1) (by omega)) h3))
    · by_cases b : j = k + 1
      · rw [b, wk1]
        exact h2 _ _ (h1 (k + 1) (by omega)) h3
      · rw [wo j a b]; exact h1 j hj
  have les : ∀ j, j ≤ is.length → leF (sqAt (relD f i k (relU r i k S)) j) (sqAt S j) := fun j hj => by
    by_cases a : j = k
    · rw [a, wk]; exact lesserF_le_left
    · by_cases b : j = k + 1
      · rw [b, wk1]; exact lesserF_le_left
      · rw [wo j a b]; exact leF_refl _
  have nnp : ∀ (x : Fr2) (c : Int), 0 ≤ x.1 → 0 < x.2 → 0 ≤ c → 0 ≤ (plusK x c).1 := fun x c h1 h2 h3 => by
    show 0 ≤ x.1 + c * x.2
    have := Int.mul_nonneg h3 (Int.le_of_lt h2)
    omega
  have fq' := all (fun x => Fq x.1 x.2) L.fq (fun x y hx hy => by unfold lesserF; split <;> assumption) (plusK_fq (L.fq k (by omega))) plusK_fq
  have F := reach_feas (is := is) p0 hr hf
  have rpos : ∀ j, j ≤ is.length → 0 < (reachF r f is (sqAt S0) j).2 := fun j hj => leastL_pos (p0 j) (reach_pos p0 hr hf j hj)
  have fu := F.up k i e li
  have fd := F.down k i e li
  simp only [show k ≤ is.length by omega, show k + 1 ≤ is.length by omega, if_true] at fu fd
  refine ⟨⟨by unfold relD; rw [List.length_set]; exact l1, fq', ?_, ?_, fun j hj => leF_trans (fq' j hj).pos (L.pos hj) (p0 j) (les j hj) (L.le j hj), fun j hj => ?_⟩, les, ?_, ?_⟩
  · exact fun j hj => (all (fun x => 0 ≤ x.1 ∧ 0 < x.2) (fun j hj => ⟨L.nn j hj, L.pos hj⟩) (fun x y hx hy => by unfold lesserF; split <;> assumption) ⟨nnp _ _ (L.nn k (by omega)) pk c1, pk⟩ (fun h => ⟨nnp _ _ h.1 h.2 c2, h.2⟩) j hj).1
  · exact all (fun x => x.2 ≤ 10 ^ 14) L.qm (fun x y hx hy => by unfold lesserF; split <;> assumption) (L.qm k (by omega)) (fun h => h)
  · have a1 : leF (reachF r f is (sqAt S0) (k + 1)) (lesserF (sqAt S (k + 1)) (plusK (sqAt S k) (chg r i))) :=
      le_lesserF (L.low _ (by omega)) (leF_trans (rpos _ (by omega)) (plusK_pos (rpos k (by omega))) (plusK_pos pk) fu (plusK_mono (rpos k (by omega)) pk (L.low k (by omega)) (Int.le_refl _)))
    by_cases a : j = k
    · rw [a, wk]
      exact le_lesserF (L.low k (by omega)) (leF_trans (rpos k (by omega)) (plusK_pos (rpos (k + 1) (by omega))) (plusK_pos pl) fd (plusK_mono (rpos (k + 1) (by omega)) pl a1 (Int.le_refl _)))
    · by_cases b : j = k + 1
      · rw [b, wk1]; exact a1
      · rw [wo j a b]; exact L.low j hj
  · rw [wk1]; exact lesserF_le_right
  · rw [wk]
    exact leF_trans (lesserF_pos pk (plusK_pos pl)) (plusK_pos pl) (plusK_pos pk1) lesserF_le_right (plusK_mono pl pk1 lesserF_le_left (Int.le_refl _))
/-- what the borders within t lines let a border be -/
def UpA (r : Int) (is : List Itm) (S0 S : List Fr2) (t b : Nat) : Prop := ∀ p ∈ (aheadL r is (sqAt S0) b 0).take t, leF (sqAt S b) p.2
def UpB (f : Int) (is : List Itm) (S0 S : List Fr2) (t b : Nat) : Prop := ∀ p ∈ (behindL f (sqAt S0) (is.drop b) b 0).take t, leF (sqAt S b) p.2
theorem UpA.less {S' : List Fr2} {t b : Nat} (u : UpA r is S0 S t b) (q1 : 0 < (sqAt S' b).2) (q2 : 0 < (sqAt S b).2) (q3 : ∀ p ∈ aheadL r is (sqAt S0) b 0, 0 < p.2.2) (l : leF (sqAt S' b) (sqAt S b)) : UpA r is S0 S' t b :=
  fun p mp => leF_trans q1 q2 (q3 p (List.mem_of_mem_take mp)) l (u p mp)
theorem UpB.less {S' : List Fr2} {t b : Nat} (u : UpB f is S0 S t b) (q1 : 0 < (sqAt S' b).2) (q2 : 0 < (sqAt S b).2) (q3 : ∀ p ∈ behindL f (sqAt S0) (is.drop b) b 0, 0 < p.2.2) (l : leF (sqAt S' b) (sqAt S b)) : UpB f is S0 S' t b :=
  fun p mp => leF_trans q1 q2 (q3 p (List.mem_of_mem_take mp)) l (u p mp)
theorem up_ahead {S' : List Fr2} {t k : Nat} {i : Itm} (u : UpA r is S0 S t k) (e : is[k]? = some i) (li : isL i = true) (p0 : ∀ j, 0 < (sqAt S0 j).2) (hr : 0 ≤ r) (hf : 0 ≤ f) (q1 : 0 < (sqAt S' (k + 1)).2) (q2 : 0 < (sqAt S k).2) (b0 : leF (sqAt S k) (sqAt S0 k))
    (l : leF (sqAt S' (k + 1)) (plusK (sqAt S k) (chg r i))) : UpA r is S0 S' (t + 1) (k + 1) := by
  have hk : k < is.length := (List.getElem?_eq_some_iff.mp e).1
  intro p mp
  rw [aheadL_line e li, List.take_succ_cons] at mp
  rcases List.mem_cons.mp mp with z | m
  · rw [z]
    exact leF_trans q1 (plusK_pos q2) (plusK_pos (p0 k)) l (plusK_mono q2 (p0 k) b0 (Int.le_refl _))
  · rw [← List.map_take] at m
    obtain ⟨q, mq, rfl⟩ := List.mem_map.mp m
    have qp : 0 < q.2.2 := reach_pos (f := f) p0 hr hf k (by omega) q (List.mem_append_left _ (List.mem_of_mem_take mq))
    exact leF_trans q1 (plusK_pos q2) (plusK_pos qp) l (plusK_mono q2 qp (u q mq) (Int.le_refl _))
theorem up_behind {S' : List Fr2} {t k : Nat} {i : Itm} (u : UpB f is S0 S t (k + 1)) (e : is[k]? = some i) (li : isL i = true) (p0 : ∀ j, 0 < (sqAt S0 j).2) (hr : 0 ≤ r) (hf : 0 ≤ f) (q1 : 0 < (sqAt S' k).2) (q2 : 0 < (sqAt S (k + 1)).2) (b0 : leF (sqAt S (k + 1)) (sqAt S0 (k + 1)))
    (l : leF (sqAt S' k) (plusK (sqAt S (k + 1)) (chg f i))) : UpB f is S0 S' (t + 1) k := by
  have hk : k < is.length := (List.getElem?_eq_some_iff.mp e).1
  intro p mp
  rw [behindL_line e li, List.take_succ_cons] at mp
  rcases List.mem_cons.mp mp with z | m
  · rw [z]
    exact leF_trans q1 (plusK_pos q2) (plusK_pos (p0 (k + 1))) l (plusK_mono q2 (p0 (k + 1)) b0 (Int.le_refl _))
  · rw [← List.map_take] at m
    obtain ⟨q, mq, rfl⟩ := List.mem_map.mp m
    have qp : 0 < q.2.2 := reach_pos (r := r) p0 hr hf (k + 1) (by omega) q (List.mem_append_right _ (List.mem_of_mem_take mq))
    exact leF_trans q1 (plusK_pos q2) (plusK_pos qp) l (plusK_mono q2 qp (u q mq) (Int.le_refl _))
/-- what is reached when nothing can be lowered any more -/
theorem low_end (L : Low r f is S0 S) (hr : 0 ≤ r) (hf : 0 ≤ f) (p0 : ∀ j, 0 < (sqAt S0 j).2) (q0 : ∀ j, j ≤ is.length → Fq (sqAt S0 j).1 (sqAt S0 j).2) (ua : ∀ b, b ≤ is.length → UpA r is S0 S (is.length + 1) b) (ub : ∀ b, b ≤ is.length → UpB f is S0 S (is.length + 1) b) :
    S = (List.range (is.length + 1)).map (reachF r f is (sqAt S0)) := by
  refine list_sq_eq (by rw [L.len]; simp) fun j hj => ?_
  rw [L.len] at hj
  have e : sqAt ((List.range (is.length + 1)).map (reachF r f is (sqAt S0))) j = reachF r f is (sqAt S0) j := by
    unfold sqAt
    rw [List.getD_eq_getElem?_getD, List.getElem?_map, List.getElem?_range (by omega)]
    rfl
  rw [e]
  refine leF_antisymm (L.fq j (by omega)) ?_ ?_ (L.low j (by omega))
  · refine leastL_prop (P := fun x => Fq x.1 x.2) (q0 j (by omega)) fun p mp => ?_
    rcases List.mem_append.mp mp with m | m
    · exact aheadL_prop (P := fun x => Fq x.1 x.2) (fun j k hj _ => plusK_fq (q0 j (by omega))) hr j 0 (Int.le_refl _) p m
    · exact behindL_prop (P := fun x => Fq x.1 x.2) (n := is.length) (fun j k hj _ => plusK_fq (q0 j hj)) hf _ _ 0 (by rw [List.length_drop]; omega) (Int.le_refl _) p m
  · refine leastL_ge (L.le j (by omega)) fun p mp => ?_
    rcases List.mem_append.mp mp with m | m
    · have := ua j (by omega)
      unfold UpA at this
      rw [List.take_of_length_le (Nat.le_trans (aheadL_len _ _) (by omega))] at this
      exact this p m
    · have := ub j (by omega)
      unfold UpB at this
      rw [List.take_of_length_le (Nat.le_trans (behindL_len _ _ _) (by rw [List.length_drop]; omega))] at this
      exact this p m
end
end GB
namespace GB
open PySem PySem.Spec PyProof.Rows L2
/-! ### list(range(n)) -/
def eLRg (f : SE) : SE := fun τ h => (f τ h).bind fun x h1 =>
  match x with
  | .int n => if 0 ≤ n ∧ n ≤ 16777216 then .ok (.lst (rngL 0 n.toNat 1)) h1 else .no
  | _ => .no
theorem rp_ints {K : PySem.W.Frag} {G : Hp} {R : List Addr} {g : Nat → Int} : ∀ (l : List Nat), RpL K G R (l.map fun i => T.int (g i)) (l.map fun i => V.int (g i))
  | [] => .nil
  | i :: l => .cons (.int _) (rp_ints l)
section
variable {X : Cx} {E : WX} {en : Ent} {rk kd k1 : Kd} {lin lin1 lin' : List Nat} {o a b c : Expr} {fo fa fb : SE} {pos pos' pos2 apos cpos apos2 cpos2 tpos p p2 : Pos} {i j l : Nat} {x y z : Str}
theorem pb_listRg (hc : X.calm = true) (hg : Gl X "list") (hm : X.mg "list" = none) (hgr : Gl X "range") (hmr : X.mg "range" = none) (ha : PEB X E lin .fz a fa)
    (na1 : starEach [a] X.env = (false, eval a X.env) :: starEach [] X.env := by rfl)
    (na : starEach [.Call (.Name "range" p2) [a] [] pos2] X.env = (false, eval (.Call (.Name "range" p2) [a] [] pos2) X.env) :: starEach [] X.env := by rfl) :
    PEB X E lin .own (.Call (.Name "list" p) [.Call (.Name "range" p2) [a] [] pos2] [] pos) (eLRg fa) :=
  impE (pe_listRg hc hg hm (prg_1 hgr hmr ha na1) na) fun σ H Q ⟨G, R, τ, h, N0, gd, fr, o⟩ => by
    refine lE.then gd fr o fun x vx h1 G1 R1 H1 g1 e1 f1 r1 o1 => ?_
    cases x with
    | int n =>
      have o2 : Out X.K X.mg (fun c d H' => E c d σ H') G1 R1 H1 (if 0 ≤ n ∧ n ≤ 16777216 then Rs.ok (T.lst (rngL 0 n.toNat 1)) h1 else Rs.no) (fun t G' R' H' => ∀ v, Res X.K .own H t v G' R' H' → Q v H') := o1
      split at o2
      · rename_i hz
        refine ⟨n, Live.int (Res.live r1), RgOk.of_le (by omega) (by omega) (by omega) (by omega), fun q nq => ?_⟩
        obtain ⟨g2, e2, n2, m2⟩ := g1.newO (o := .lst (rgV 0 n)) nq
        refine o2 G1 R1 _ g2 e2 _ (Res.back (kd := .own) g1 e1 ⟨_, q, _, rfl, rfl, upd_same, m2, n2, nq, ?_⟩)
        have : rngL 0 n.toNat 1 = (List.range n.toNat).map fun (i : Nat) => T.int (0 + (i : Int)) := by
          unfold rngL
          exact List.map_congr_left fun i _ => by rw [Int.mul_one]
        rw [this]
        have e3 : rgV 0 n = (List.range n.toNat).map fun (i : Nat) => V.int (0 + (i : Int)) := by
          unfold rgV
          rw [Int.sub_zero]
        rw [e3]
        exact rp_ints (g := fun (i : Nat) => 0 + (i : Int)) _
      · exact o2.elim
    | _ => exact False.elim o1
/-! ### xs.append(ys.pop(k)) -/
theorem RpL.eraseIdx {K : PySem.W.Frag} {G : Hp} {R : List Addr} {ts : List T} {vs : List V} (r : RpL K G R ts vs) (n : Nat) : RpL K G R (ts.eraseIdx n) (vs.eraseIdx n) := by
  rw [List.eraseIdx_eq_take_drop_succ, List.eraseIdx_eq_take_drop_succ]
  exact (r.take n).append (r.drop (n + 1))
def sAppPop (i j : Nat) (f : SE) : SS := fun τ h =>
  match τ[i]?, τ[j]? with
  | some (some (.lst ts)), some (some (.lst us)) => (f τ h).fl τ fun k h1 =>
    match k with
    | .int k => match us[k.toNat]? with
      | some t => if (0 ≤ k ∧ k < 4611686018427387904) ∧ ts.length < sizeLine then .nx ((τ.set j (some (.lst (us.eraseIdx k.toNat)))).set i (some (.lst (ts ++ [t])))) h1 else .no
      | none => .no
    | _ => .no
  | _, _ => .no
theorem psb_appPop (hl : lin.contains i = true) (hl2 : lin.contains j = true) (hij : i ≠ j) (ha : PEB X E lin .fz a fa) (hN : X.N[i]? = some x := by rfl) (hN2 : X.N[j]? = some y := by rfl)
    (hv : Vis X.env.scope x := by first | exact Or.inl rfl | exact Or.inr (Or.inl rfl) | exact Or.inr (Or.inr rfl)) (hd : (x == ("__debug__" : Str)) = false := by decide) (hcd : (x == ("__classdict__" : Str)) = false := by decide)
    (hv2 : Vis X.env.scope y := by first | exact Or.inl rfl | exact Or.inr (Or.inl rfl) | exact Or.inr (Or.inr rfl)) (hd2 : (y == ("__debug__" : Str)) = false := by decide) (hcd2 : (y == ("__classdict__" : Str)) = false := by decide)
    (hbase2 : attributeBase (.Name y pos2) "pop" X.env (eval (.Name y pos2) X.env) = eval (.Name y pos2) X.env := by rfl)
    (hfew2 : ((backTo cpos2 (starEach [a] X.env)).all (fun x => !x.1) && (backToKw cpos2 (keywordEach [] X.env)).all (fun x => x.1.isSome) && decide ([a].length + ([] : List Keyword).length + (if ([] : List Keyword).isEmpty then 0 else 1) < 30)) = true := by rfl)
    (hline2 : (apos2.endLine == cpos2.line) = true := by rfl) (hs2 : starEach [a] X.env = (false, eval a X.env) :: starEach [] X.env := by rfl) (hplain2 : (backTo cpos2 (starEach [] X.env)).any (·.1) = false := by rfl)
    (hbase : attributeBase (.Name x pos') "append" X.env (eval (.Name x pos') X.env) = eval (.Name x pos') X.env := by rfl)
    (hfew : ((backTo cpos (starEach [(Expr.Call (.Attribute (.Name y pos2) "pop" apos2) [a] [] cpos2)] X.env)).all (fun x => !x.1) && (backToKw cpos (keywordEach [] X.env)).all (fun x => x.1.isSome) && decide ([(Expr.Call (.Attribute (.Name y pos2) "pop" apos2) [a] [] cpos2)].length + ([] : List Keyword).length + (if ([] : List Keyword).isEmpty then 0 else 1) < 30)) = true := by rfl)
    (hline : (apos.endLine == cpos.line) = true := by rfl) (hs : starEach [(Expr.Call (.Attribute (.Name y pos2) "pop" apos2) [a] [] cpos2)] X.env = (false, eval (.Call (.Attribute (.Name y pos2) "pop" apos2) [a] [] cpos2) X.env) :: starEach [] X.env := by rfl) (hplain : (backTo cpos (starEach [] X.env)).any (·.1) = false := by rfl)
    (hsw : swapsWith (.Call (.Attribute (.Name x pos') "append" apos) [(Expr.Call (.Attribute (.Name y pos2) "pop" apos2) [a] [] cpos2)] [] cpos) none pos.line X.env = pure false := by rfl) :
    PSB X E en rk lin lin (.Expr (.Call (.Attribute (.Name x pos') "append" apos) [(Expr.Call (.Attribute (.Name y pos2) "pop" apos2) [a] [] cpos2)] [] cpos) pos) (sAppPop i j fa) :=
  impS (ps_expr (pe_bm PySem.F.plainAttrs_list PySem.F.slot_list_append PySem.F.type_list_append mt_append (pe_var hN hv hd hcd)
    (pa_cons (pe_bm PySem.F.plainAttrs_list PySem.F.slot_list_pop PySem.F.type_list_pop mt_popAt (pe_var hN2 hv2 hd2 hcd2) (pa_cons ha pa_nil hs2) hbase2 hfew2 hline2 hs2 hplain2) pa_nil hs) hbase hfew hline hs hplain) hsw) fun D σ H ⟨G, R, τ, h, fs, o⟩ => by
    have mi : i ∈ lin := List.contains_iff_mem.mp hl
    have mj : j ∈ lin := List.contains_iff_mem.mp hl2
    unfold sAppPop at o
    split at o
    · rename_i ts us e e'
      obtain ⟨ts2, p, xs, q1, h2, h3, h4, h5, h6, h7⟩ := fs.fr.own i _ e mi
      obtain ⟨us2, p', xs', q1', h2', h3', h4', h5', h6', h7'⟩ := fs.fr.own j _ e' mj
      cases q1
      cases q1'
      have npp : p ≠ p' := fun z => hij (fs.fr.apart i j _ _ p e e' mi mj h2 (by rw [h2', z]))
      refine ⟨_, h2, .inl ⟨rfl, xs, SqL.of h3⟩, ?_⟩
      refine ⟨_, h2', .inl ⟨rfl, xs', SqL.of h3'⟩, ?_⟩
      refine lE.thenS fs o fun t v h1 G1 R1 H1 f1 e1 r1 o1 => ?_
      cases t with
      | int k =>
        have o2 : OutS X.K X.mg E en rk lin G1 R1 (match us[k.toNat]? with | some t => if (0 ≤ k ∧ k < 4611686018427387904) ∧ ts.length < sizeLine then Fl.nx ((τ.set j (some (.lst (us.eraseIdx k.toNat)))).set i (some (.lst (ts ++ [t])))) h1 else .no | none => .no) D := o1
        split at o2
        · rename_i t et
          split at o2
          · rename_i hz
            have j3 := e1.kept p _ h3 h5
            have k3 := e1.kept p' _ h3' h5'
            have r7 := e1.rpl h7
            have r7' := e1.rpl h7'
            obtain ⟨w, hw, rw'⟩ := r7'.get et
            have hlt : k.toNat < xs'.length := (List.getElem?_eq_some_iff.mp hw).1
            refine ⟨p', xs', k, k.toNat, w, rfl, by rw [Live.int (Res.live r1)], k3, by omega, by omega, ?_, hw, ?_⟩
            · unfold seqIndex?
              have c1 : ¬ k < 0 := by omega
              simp only [c1, if_false]
              rw [if_pos]
              rw [Bool.and_eq_true, decide_eq_true_eq, decide_eq_true_eq]
              omega
            · have f2 := f1.wr mj e' h2' (r7'.eraseIdx k.toNat)
              have e2 : (τ.set j (some (.lst (us.eraseIdx k.toNat))))[i]? = some (some (.lst ts)) := by rw [List.getElem?_set_ne (Ne.symm hij)]; exact e
              refine ⟨p, xs, w, rfl, rfl, by rw [upd_ne npp]; exact j3, by rw [← h7.len]; exact hz.2, ?_⟩
              exact o2 G1 R1 _ σ (f2.wr mi e2 h2 (r7.append (.cons rw' .nil))) (fun _ _ e => e) (List.prefix_refl _)
          · exact o2.elim
        · exact o2.elim
      | _ => exact False.elim o1
    · exact o.elim
end
/-! ### a list times a number -/
def gRepL : G2 := fun x y h =>
  match asL h x, y with
  | some a, .int k => if (0 ≤ k ∧ k ≤ 1000000) ∧ a.length * k.toNat ≤ sizeLine then some (.lst (List.replicate k.toNat a).flatten) else none
  | _, _ => none
def rRepL (K : PySem.W.Frag) : R2 := fun x y H Q => ∃ l k xs, x = .ref l ∧ y = .int k ∧ SqL K H l xs ∧ (0 ≤ k ∧ k ≤ 1000000) ∧ xs.length * k.toNat ≤ sizeLine ∧ ∀ p, H p = none → Q (.ref p) (upd H p (.lst (List.replicate k.toNat xs).flatten))
section
variable {K : PySem.W.Frag} {X : Cx}
theorem op_repL : OpR X (binaryOp .Mult) (rRepL X.K) := by
  intro pins s σ H x y v u Q I rx ry h
  obtain ⟨l, k, xs, rfl, rfl, hH, hk, hz, q⟩ := h
  cases rx
  obtain ⟨t, rfl⟩ := ry
  obtain ⟨its, r, p1, z1⟩ := I.list hH
  have l1 := r.length
  obtain ⟨⟨cls, dd, data, sl⟩, ho, hc, n, hd⟩ := id p1.isList
  simp only at hc hd
  subst hc hd
  have hlen : its.toArray.size * k.toNat ≤ sizeLine := by rw [List.size_toArray, ← l1]; exact hz
  have hl2 : its.toArray.size * k.toNat ≤ 16777216 := by rw [← sizeLine_eq]; exact hlen
  refine wpAny_binaryOp_repeat_ref (T := "list") (U := "int") (by decide) ⟨_, ho, rfl⟩ (fun s' => typeIs_int s' k t) noFill_list_mul F.fills_int_mul F.slot_int_rmul repeat_list F.slot_int_index.lookup
    (call_meets F.slot_int_rmul (typeIs_int s k t) F.entry_int_rmul (F.args_int_rmul_2 _ _) (lm_int_rmul_list_any k t l its.toArray n dd sl)
      ⟨ho, rfl, ⟨_, ho, rfl⟩, call_meets F.slot_list_mul ⟨_, ho, rfl⟩ F.entry_list_mul (F.args_list_mul_2 _ _)
        (lm_list_mul_any l its.toArray n dd sl k t (by simp [Builtin.List.listFitsIndex]; omega) (by omega) (by simp [Builtin.List.listTooLong, sizeLine]; omega))
        ⟨ho, ?_⟩⟩)
  rw [PyProof.Rows.listMul_foldl_if]
  exact ⟨.ref _, _, I.lnew (t' := s.toks) (r.rep k.toNat) (by rw [PyProof.Rows.lm_len_rep_flat, Nat.mul_comm]; exact hz), rfl, q _ I.fresh⟩
theorem o2_repL : Op2 K (rRepL K) gRepL .own := by
  intro G R H h x y vx vy z Q g lx ly e k
  unfold gRepL at e
  split at e
  · rename_i a i ea
    split at e
    · rename_i hz
      cases e
      obtain ⟨l, xs, rfl, qx, rx⟩ := lx.asL g ea
      refine ⟨l, i, xs, rfl, ly.int, qx, hz.1, by rw [← rx.len]; exact hz.2, fun p np => ?_⟩
      obtain ⟨g2, e2, n2, m2⟩ := g.newO (o := .lst (List.replicate i.toNat xs).flatten) np
      exact k _ _ _ _ g2 e2 ⟨_, p, _, rfl, rfl, upd_same, m2, n2, np, e2.rpl (rpl_rep rx _)⟩
    · cases e
  · cases e
theorem q_repL {a : List T} {k : Int} {h : IH} : gRepL (.lst a) (.int k) h = if (0 ≤ k ∧ k ≤ 1000000) ∧ a.length * k.toNat ≤ sizeLine then some (.lst (List.replicate k.toNat a).flatten) else none := rfl
end
/-! ### in, among tuples -/
def gInD (neg : Bool) : G2 := fun x y h =>
  match pyH h x, pyH h y with
  | some d, some (.list ds) => if (SeqAt.shaped d && SeqAt.shaped (.list ds)) = true then some (.bl (neg ^^ ds.any fun z => PyData.eqv z d)) else none
  | _, _ => none
def rInDn (K : PySem.W.Frag) (neg : Bool) : R2 := fun x y H Q => ∃ d ds, Dp K H x d ∧ Dp K H y (.list ds) ∧ SeqAt.shaped d = true ∧ SeqAt.shaped (.list ds) = true ∧ Q (.bl (neg ^^ ds.any fun z => PyData.eqv z d)) H
section
variable {K : PySem.W.Frag} {X : Cx}
theorem room65 {k : Nat} {A : Around} (r : Room k A) : A.units + 65 < cLine := by have := r.un; omega
theorem op_inDn (hu : X.A.units + 65 < cLine) : OpR X (compareOp .In) (rInDn X.K false) := by
  intro pins s σ H x y v u Q I rx ry h
  obtain ⟨d, ds, hd, he, sd, se, q⟩ := h
  rw [Bool.false_xor] at q
  exact op_inD hu pins s σ H x y v u Q I rx ry ⟨d, ds, hd, he, sd, se, q⟩
theorem op_notInDn (hu : X.A.units + 65 < cLine) : OpR X (compareOp .NotIn) (rInDn X.K true) := by
  intro pins s σ H x y v u Q I rx ry h
  obtain ⟨d, ds, hd, he, sd, se, q⟩ := h
  rw [Bool.true_xor] at q
  exact op_notInD hu pins s σ H x y v u Q I rx ry ⟨d, ds, hd, he, sd, se, q⟩
theorem o2_inD {n : Bool} : Op2 K (rInDn K n) (gInD n) .fz := by
  intro G R H h x y vx vy z Q g lx ly e k
  unfold gInD at e
  split at e
  · rename_i d ds e1 e2
    split at e
    · rename_i sh
      rw [Bool.and_eq_true] at sh
      cases e
      exact ⟨d, ds, lx.dp g e1, ly.dp g e2, sh.1, sh.2, k _ G R H g .refl (.bl _)⟩
    · cases e
  · cases e
end
end GB
namespace GB
open PySem PySem.Spec PyProof.Rows L2
section
variable {f : SE} {τ : Ev} {h : IH} {P1 : T → IH → Prop} {N : Ev → IH → Prop} {M : T → IH → Prop} {i j : Nat}
theorem w_LRg : Ok (eLRg f τ h) P1 = Ok (f τ h) fun x h1 => ∃ n, x = .int n ∧ (0 ≤ n ∧ n ≤ 16777216) ∧ P1 (.lst (rngL 0 n.toNat 1)) h1 := by
  unfold eLRg
  rw [w_bind]
  congr 1; funext x h1
  cases x with
  | int n => simp only [w_iteN, w_ok]; exact propext ⟨fun z => ⟨n, rfl, z⟩, fun ⟨_, e, z⟩ => by cases e; exact z⟩
  | _ => exact propext ⟨fun z => z.out.elim, fun ⟨_, e, _⟩ => nomatch e⟩
theorem v_AppPop : OkS (sAppPop i j f τ h) N M = ∃ ts, τ[i]? = some (some (.lst ts)) ∧ ∃ us, τ[j]? = some (some (.lst us)) ∧ Ok (f τ h) fun k h1 => ∃ k', k = .int k' ∧ ∃ t, us[k'.toNat]? = some t ∧ ((0 ≤ k' ∧ k' < 4611686018427387904) ∧ ts.length < sizeLine) ∧ N ((τ.set j (some (.lst (us.eraseIdx k'.toNat)))).set i (some (.lst (ts ++ [t])))) h1 := by
  unfold sAppPop
  split
  · rename_i ts us e1 e2
    rw [w_fl]
    have key : ∀ (k : T) (h1 : IH), OkS (match k with | .int k => (match us[k.toNat]? with | some t => if (0 ≤ k ∧ k < 4611686018427387904) ∧ ts.length < sizeLine then Fl.nx ((τ.set j (some (.lst (us.eraseIdx k.toNat)))).set i (some (.lst (ts ++ [t])))) h1 else .no | none => .no) | _ => .no) N M = ∃ k', k = .int k' ∧ ∃ t, us[k'.toNat]? = some t ∧ ((0 ≤ k' ∧ k' < 4611686018427387904) ∧ ts.length < sizeLine) ∧ N ((τ.set j (some (.lst (us.eraseIdx k'.toNat)))).set i (some (.lst (ts ++ [t])))) h1 := fun k h1 => by
      cases k with
      | int k =>
        cases e : us[k.toNat]? with
        | none => simp only [e]; exact propext ⟨fun z => z.out.elim, fun ⟨k', ek, t, et, _⟩ => by cases ek; rw [e] at et; cases et⟩
        | some t => simp only [e, v_iteN, v_nx]; exact propext ⟨fun z => ⟨k, rfl, t, e, z⟩, fun ⟨k', ek, t', et, z⟩ => by cases ek; rw [e] at et; cases et; exact z⟩
      | _ => exact propext ⟨fun z => z.out.elim, fun ⟨_, e, _⟩ => nomatch e⟩
    refine propext ⟨fun z => ⟨ts, e1, us, e2, z.imp fun k h1 q => Eq.mp (key k h1) q⟩, fun ⟨ts', a1, us', a2, z⟩ => ?_⟩
    have b1 := e1.symm.trans a1
    have b2 := e2.symm.trans a2
    cases b1; cases b2
    exact z.imp fun k h1 q => Eq.mpr (key k h1) q
  · rename_i e
    exact propext ⟨fun z => z.out.elim, fun ⟨ts, a1, us, a2, _⟩ => (e ts us a1 a2).elim⟩
end
end GB
namespace GB
open PySem PySem.Spec PyProof.Rows L2
/-! ### axes turned about, signs -/
structure TurnOk (n : Nat) (ps : List Nat) (sg : List Int) : Prop where
  lp : ps.length = n
  ls : sg.length = n
  all : ∀ i, i < n → i ∈ ps
  lt : ∀ p ∈ ps, p < n
  one : ∀ s ∈ sg, s = 1 ∨ s = -1
def turnL (ps : List Nat) (sg : List Int) (xs : List Int) : List Int := (ps.zip sg).map fun p => p.2 * xs.getD p.1 0
theorem zip_has {α β : Type} : ∀ {l : List α} {m : List β} {a : α}, a ∈ l → l.length = m.length → ∃ b, (a, b) ∈ l.zip m
  | [], _, _, h, _ => by cases h
  | _ :: _, [], _, _, e => by cases e
  | x :: l, y :: m, a, h, e => by
    rcases List.mem_cons.mp h with z | h
    · exact ⟨y, by rw [z]; exact List.mem_cons_self⟩
    · obtain ⟨b, hb⟩ := zip_has h (by simpa using e)
      exact ⟨b, List.mem_cons_of_mem _ hb⟩
theorem abs_sign {s z : Int} (h : s = 1 ∨ s = -1) : ((s * z).natAbs : Int) = (z.natAbs : Int) := by
  rcases h with rfl | rfl <;> omega
section
variable {n : Nat} {ps : List Nat} {sg : List Int}
theorem turnL_lead (T : TurnOk n ps sg) {xs : List Int} (h : xs.length = n) : lead (turnL ps sg xs) = lead xs := by
  refine Int.le_antisymm ?_ ?_
  · refine lead_le lead_nonneg fun z mz => ?_
    obtain ⟨p, mp, rfl⟩ := List.mem_map.mp mz
    have m := List.of_mem_zip mp
    have hl := T.lt _ m.1
    have e : xs.getD p.1 0 = xs[p.1]'(by omega) := by rw [List.getD_eq_getElem?_getD, List.getElem?_eq_getElem (by omega)]; rfl
    have a := abs_sign (z := xs.getD p.1 0) (T.one _ m.2)
    have b := le_lead (List.getElem_mem (l := xs) (by omega : p.1 < xs.length))
    rw [← e] at b
    omega
  · refine lead_le lead_nonneg fun z mz => ?_
    obtain ⟨i, hi, rfl⟩ := List.mem_iff_getElem.mp mz
    obtain ⟨s, ms⟩ := zip_has (T.all i (by omega)) (T.lp.trans T.ls.symm)
    have e : xs.getD i 0 = xs[i] := by rw [List.getD_eq_getElem?_getD, List.getElem?_eq_getElem hi]; rfl
    have m : s * xs.getD i 0 ∈ turnL ps sg xs := List.mem_map.mpr ⟨(i, s), ms, rfl⟩
    have a := abs_sign (z := xs.getD i 0) (T.one _ (List.of_mem_zip ms).2)
    have b := le_lead m
    rw [e] at a b
    omega
theorem dif_get {xs ys : List Int} {L M : Int} {i : Nat} (h1 : i < xs.length) (h2 : i < ys.length) : (dif xs ys L M).getD i 0 = xs.getD i 0 * M - ys.getD i 0 * L := by
  unfold dif
  have z : (xs.zip ys)[i]? = some (xs[i], ys[i]) := List.getElem?_zip_eq_some.mpr ⟨List.getElem?_eq_getElem h1, List.getElem?_eq_getElem h2⟩
  rw [List.getD_eq_getElem?_getD, List.getD_eq_getElem?_getD, List.getD_eq_getElem?_getD, List.getElem?_map, z, List.getElem?_eq_getElem h1, List.getElem?_eq_getElem h2]
  rfl
theorem turnL_dif (T : TurnOk n ps sg) {xs ys : List Int} (h1 : xs.length = n) (h2 : ys.length = n) {L M : Int} : dif (turnL ps sg xs) (turnL ps sg ys) L M = turnL ps sg (dif xs ys L M) := by
  have e : dif (turnL ps sg xs) (turnL ps sg ys) L M = ((ps.zip sg).map fun p => p.2 * xs.getD p.1 0 * M - p.2 * ys.getD p.1 0 * L) := by
    unfold dif turnL
    generalize ps.zip sg = l
    induction l with
    | nil => rfl
    | cons p l ih =>
      simp only [List.map_cons, List.zip_cons_cons]
      rw [ih]
  rw [e]
  unfold turnL
  refine List.map_congr_left fun p mp => ?_
  have hl := T.lt _ (List.of_mem_zip mp).1
  rw [dif_get (by omega) (by omega), Int.mul_sub, Int.mul_assoc, Int.mul_assoc]
theorem dif_len {xs ys : List Int} {L M : Int} (h1 : xs.length = n) (h2 : ys.length = n) : (dif xs ys L M).length = n := by
  unfold dif
  rw [List.length_map, List.length_zip]; omega
def turnI (ps : List Nat) (sg : List Int) : Itm → Itm
  | .line xs s => .line (turnL ps sg xs) s
  | i => i
theorem turnI_isL {i : Itm} : isL (turnI ps sg i) = isL i := by cases i <;> rfl
theorem turnI_chg (T : TurnOk n ps sg) {v : Int} {i : Itm} (o : OkI n i) : chg v (turnI ps sg i) = chg v i := by
  cases i with
  | line xs s =>
    show 2 * v * lead (turnL ps sg xs) = 2 * v * lead xs
    rw [turnL_lead T (LnOk.len o)]
  | _ => rfl
theorem turnL_mem (T : TurnOk n ps sg) {xs : List Int} (h : xs.length = n) {z : Int} (m : z ∈ turnL ps sg xs) : ∃ x ∈ xs, z = x ∨ z = -x := by
  obtain ⟨p, mp, rfl⟩ := List.mem_map.mp m
  have mm := List.of_mem_zip mp
  have hl := T.lt _ mm.1
  refine ⟨xs.getD p.1 0, ?_, ?_⟩
  · rw [List.getD_eq_getElem?_getD, List.getElem?_eq_getElem (by omega : p.1 < xs.length)]
    exact List.getElem_mem _
  · rcases T.one _ mm.2 with e | e <;> rw [e]
    · exact .inl (Int.one_mul _)
    · exact .inr (by omega)
theorem turnI_ok (T : TurnOk n ps sg) {i : Itm} (o : OkI n i) : OkI n (turnI ps sg i) := by
  cases i with
  | line xs s =>
    have lo : LnOk n xs s := o
    refine ⟨?_, fun z mz => ?_, ?_, lo.s1, lo.s2⟩
    · show (turnL ps sg xs).length = n
      unfold turnL
      rw [List.length_map, List.length_zip, T.lp, T.ls]; omega
    · obtain ⟨x, mx, e⟩ := turnL_mem T lo.len mz
      have := lo.bnd x mx
      omega
    · have l := turnL_lead T lo.len
      have l0 := lo.lead0
      rw [← l] at l0
      rcases Classical.em (∃ x ∈ turnL ps sg xs, x ≠ 0) with h | h
      · exact h
      · have : lead (turnL ps sg xs) ≤ 0 := lead_le (Int.le_refl _) fun x mx => by
          have : x = 0 := Classical.byContradiction fun nx => h ⟨x, mx, nx⟩
          omega
        omega
  | _ => exact trivial
theorem turnI_own (T : TurnOk n ps sg) {c rate : Int} {a b : Itm} (oa : OkI n a) (ob : OkI n b) : ownF c rate (turnI ps sg a) (turnI ps sg b) = ownF c rate a b := by
  cases a with
  | line xs s =>
    cases b with
    | line ys t =>
      have l1 := turnL_lead T (LnOk.len oa)
      have l2 := turnL_lead T (LnOk.len ob)
      have l3 : lead (dif (turnL ps sg xs) (turnL ps sg ys) (lead xs) (lead ys)) = lead (dif xs ys (lead xs) (lead ys)) := by
        rw [turnL_dif T (LnOk.len oa) (LnOk.len ob), turnL_lead T (dif_len (LnOk.len oa) (LnOk.len ob))]
      have e : corF c (turnL ps sg xs) (turnL ps sg ys) = corF c xs ys := by
        unfold corF
        rw [l1, l2, l3]
      show (match corF c (turnL ps sg xs) (turnL ps sg ys) with | none => lesserF (topF s rate) (topF t rate) | some f => lesserF (lesserF (topF s rate) (topF t rate)) f) = _
      rw [e]; rfl
    | _ => rfl
  | _ =>
    cases b with
    | line ys t => rfl
    | _ => rfl
theorem turn_owns (T : TurnOk n ps sg) {c rate : Int} {is : List Itm} (ok : ∀ i ∈ is, OkI n i) : ownsF c rate (is.map (turnI ps sg)) = ownsF c rate is := by
  rw [ownsF_at, ownsF_at, List.length_map]
  refine List.map_congr_left fun j _ => ?_
  cases j with
  | zero => rfl
  | succ j =>
    unfold ownAt
    simp only [List.getElem?_map]
    cases e1 : is[j]? with
    | none => rfl
    | some a => cases e2 : is[j + 1]? with
      | none => rfl
      | some b => exact turnI_own T (ok a (List.mem_of_getElem? e1)) (ok b (List.mem_of_getElem? e2))
theorem turn_walk (T : TurnOk n ps sg) {v : Int} : ∀ {is : List Itm} {ss : List Fr2} {p : Fr2}, (∀ i ∈ is, OkI n i) → walkF v p (is.map (turnI ps sg)) ss = walkF v p is ss
  | [], _, _, _ => rfl
  | _ :: _, [], _, _ => rfl
  | i :: is, s :: ss, p, ok => by
    have st : stepF v p (turnI ps sg i) s = stepF v p i s := by
      unfold stepF
      rw [turnI_isL, turnI_chg T (ok i List.mem_cons_self)]
    show stepF v p (turnI ps sg i) s :: walkF v (stepF v p (turnI ps sg i) s) (is.map (turnI ps sg)) ss = _
    rw [st, turn_walk T fun j mj => ok j (List.mem_cons_of_mem _ mj)]
    rfl
theorem turn_risen (T : TurnOk n ps sg) {v : Int} {is : List Itm} {ss : List Fr2} (ok : ∀ i ∈ is, OkI n i) : risenF v (is.map (turnI ps sg)) ss = risenF v is ss := by
  cases ss with
  | nil => rfl
  | cons s ss =>
    show s :: walkF v s (is.map (turnI ps sg)) ss = _
    rw [turn_walk T ok]; rfl
theorem turn_plan (T : TurnOk n ps sg) {r f c rate : Int} {is : List Itm} (ok : ∀ i ∈ is, OkI n i) : planF r f c rate (is.map (turnI ps sg)) = planF r f c rate is := by
  unfold planF fallenF
  rw [turn_owns T ok, turn_risen T ok, ← List.map_reverse, turn_risen T fun i mi => ok i (List.mem_reverse.mp mi)]
end
/-! ### a row turned about -/
theorem lesser_comm {f g : Fr2} (hf : Fq f.1 f.2) (hg : Fq g.1 g.2) : lesserF f g = lesserF g f := by
  have a : leF (lesserF f g) (lesserF g f) := le_lesserF lesserF_le_right lesserF_le_left
  have b : leF (lesserF g f) (lesserF f g) := le_lesserF lesserF_le_right lesserF_le_left
  have h1 : Fq (lesserF f g).1 (lesserF f g).2 := by unfold lesserF; split <;> assumption
  have h2 : Fq (lesserF g f).1 (lesserF g f).2 := by unfold lesserF; split <;> assumption
  exact leF_antisymm h1 h2 a b
theorem own_comm {ax : Nat} {c rate : Int} {a b : Itm} (r1 : 10 ≤ rate) (r2 : rate ≤ 200) (oa : OkI ax a) (ob : OkI ax b) : ownF c rate a b = ownF c rate b a := by
  cases a with
  | line xs s =>
    cases b with
    | line ys t =>
      have la : LnOk ax xs s := oa
      have lb : LnOk ax ys t := ob
      have ct : lesserF (topF s rate) (topF t rate) = lesserF (topF t rate) (topF s rate) := lesser_comm (topF_ok la.s1 la.s2 r1 r2).fq (topF_ok lb.s1 lb.s2 r1 r2).fq
      have e : corF c xs ys = corF c ys xs := by
        unfold corF
        rw [dif_swap (xs := xs) (ys := ys), show c * lead xs * lead ys = c * lead ys * lead xs by ac_rfl]
      show (match corF c xs ys with | none => lesserF (topF s rate) (topF t rate) | some f => lesserF (lesserF (topF s rate) (topF t rate)) f) = (match corF c ys xs with | none => lesserF (topF t rate) (topF s rate) | some f => lesserF (lesserF (topF t rate) (topF s rate)) f)
      rw [e, ct]
    | _ => rfl
  | _ =>
    cases b with
    | line ys t => rfl
    | _ => rfl
theorem owns_rev {ax : Nat} {c rate : Int} {is : List Itm} (r1 : 10 ≤ rate) (r2 : rate ≤ 200) (ok : ∀ i ∈ is, OkI ax i) {j : Nat} (h : j ≤ is.length) : ownAt c rate is.reverse j = ownAt c rate is (is.length - j) := by
  cases j with
  | zero =>
    rw [Nat.sub_zero, ownAt_last]; rfl
  | succ j =>
    rcases Nat.lt_or_ge (j + 1) is.length with q | q
    · obtain ⟨m, em⟩ : ∃ m, is.length - (j + 1) = m + 1 := ⟨is.length - (j + 1) - 1, by omega⟩
      rw [em]
      unfold ownAt
      simp only []
      rw [List.getElem?_reverse (by omega), List.getElem?_reverse (by omega), show is.length - 1 - j = m + 1 by omega, show is.length - 1 - (j + 1) = m by omega, List.getElem?_eq_getElem (by omega : m + 1 < is.length), List.getElem?_eq_getElem (by omega : m < is.length)]
      exact own_comm r1 r2 (ok _ (List.getElem_mem _)) (ok _ (List.getElem_mem _))
    · have e : is.length - (j + 1) = 0 := by omega
      rw [e]
      unfold ownAt
      simp only []
      rw [List.getElem?_eq_none (l := is.reverse) (i := j + 1) (by rw [List.length_reverse]; omega)]
      cases is.reverse[j]? <;> rfl
theorem feas_rev {r f : Int} {is : List Itm} {O S : Nat → Fr2} (F : Feas r f is O S) : Feas f r is.reverse (fun j => O (is.length - j)) (fun j => S (is.length - j)) := by
  refine ⟨fun j => F.pos _, fun j hj => F.own _ (by omega), fun k i e li => ?_, fun k i e li => ?_⟩
  · have hk : k < is.length := by
      have := (List.getElem?_eq_some_iff.mp e).1
      rw [List.length_reverse] at this; exact this
    rw [List.getElem?_reverse hk] at e
    have := F.down _ i e li
    show leF (S (is.length - (k + 1))) (plusK (S (is.length - k)) (chg f i))
    rw [show is.length - (k + 1) = is.length - 1 - k by omega, show is.length - k = is.length - 1 - k + 1 by omega]
    exact this
  · have hk : k < is.length := by
      have := (List.getElem?_eq_some_iff.mp e).1
      rw [List.length_reverse] at this; exact this
    rw [List.getElem?_reverse hk] at e
    have := F.up _ i e li
    show leF (S (is.length - k)) (plusK (S (is.length - (k + 1))) (chg r i))
    rw [show is.length - (k + 1) = is.length - 1 - k by omega, show is.length - k = is.length - 1 - k + 1 by omega]
    exact this
theorem Feas.congr {r f : Int} {is : List Itm} {O O' S : Nat → Fr2} (F : Feas r f is O S) (h : ∀ j, j ≤ is.length → O j = O' j) : Feas r f is O' S := ⟨F.pos, fun j hj => by rw [← h j hj]; exact F.own j hj, F.up, F.down⟩
theorem plan_rev {ax : Nat} {r f c rate : Int} {is : List Itm} (a0 : 1 ≤ r) (a1 : r ≤ 50) (b0 : 1 ≤ f) (b1 : f ≤ 50) (c0 : 1 ≤ c) (c1 : c ≤ 50) (r1 : 10 ≤ rate) (r2 : rate ≤ 200) (ok : ∀ i ∈ is, OkI ax i) {j : Nat} (hj : j ≤ is.length) :
    sqAt (planF f r c rate is.reverse) (is.length - j) = sqAt (planF r f c rate is) j := by
  have okr : ∀ i ∈ is.reverse, OkI ax i := fun i mi => ok i (List.mem_reverse.mp mi)
  have F1 := feas_rev (planF_feas (r := r) (f := f) (c := c) (rate := rate) (is := is) (by omega) (by omega))
  have F2 := feas_rev (planF_feas (r := f) (f := r) (c := c) (rate := rate) (is := is.reverse) (by omega) (by omega))
  rw [List.reverse_reverse] at F2
  have F1' : Feas f r is.reverse (sqAt (ownsF c rate is.reverse)) (fun j => sqAt (planF r f c rate is) (is.length - j)) := F1.congr fun j hj => by
    rw [List.length_reverse] at hj
    show sqAt (ownsF c rate is) (is.length - j) = _
    rw [sqAt_own (by omega), sqAt_own (by rw [List.length_reverse]; exact hj), owns_rev r1 r2 ok hj]
  have F2' : Feas r f is (sqAt (ownsF c rate is)) (fun j => sqAt (planF f r c rate is.reverse) (is.reverse.length - j)) := F2.congr fun j hj => by
    show sqAt (ownsF c rate is.reverse) (is.reverse.length - j) = _
    rw [List.length_reverse, sqAt_own (by rw [List.length_reverse]; omega), sqAt_own hj, owns_rev r1 r2 ok (by omega), show is.length - (is.length - j) = j by omega]
  have g1 := planF_greatest (by omega) (by omega) F1' (is.length - j) (by rw [List.length_reverse]; omega)
  have g2 := planF_greatest (by omega) (by omega) F2' j hj
  simp only [List.length_reverse] at g1 g2
  rw [show is.length - (is.length - j) = j by omega] at g1
  exact leF_antisymm ((planF_bd (m := 2 * is.length + 2) b0 b1 a0 a1 c0 c1 r1 r2 okr (by rw [List.length_reverse]; exact Nat.le_refl _) _ (sqAt_mem (by rw [planF_len, List.length_reverse]; omega))).fq) ((planF_bd a0 a1 b0 b1 c0 c1 r1 r2 ok (Nat.le_refl _) _ (sqAt_mem (by rw [planF_len]; omega))).fq) g2 g1
theorem plan_rev_list {ax : Nat} {r f c rate : Int} {is : List Itm} (a0 : 1 ≤ r) (a1 : r ≤ 50) (b0 : 1 ≤ f) (b1 : f ≤ 50) (c0 : 1 ≤ c) (c1 : c ≤ 50) (r1 : 10 ≤ rate) (r2 : rate ≤ 200) (ok : ∀ i ∈ is, OkI ax i) :
    planF f r c rate is.reverse = (planF r f c rate is).reverse := by
  refine list_sq_eq (by rw [planF_len, List.length_reverse, List.length_reverse, planF_len]) fun j hj => ?_
  rw [planF_len, List.length_reverse] at hj
  rw [sqAt_rev (by rw [planF_len]; omega), planF_len, show is.length + 1 - 1 - j = is.length - j by omega, ← plan_rev a0 a1 b0 b1 c0 c1 r1 r2 ok (by omega : is.length - j ≤ is.length), show is.length - (is.length - j) = j by omega]
theorem ne_of_eq {x y : T} {h : IH} {b : Bool} (e : gEq x y h = some (.bl b)) : gNe x y h = some (.bl (!b)) := by
  unfold gEq gEqB at e
  unfold gNe gEqB
  cases h1 : pyH h x with
  | none => rw [h1] at e; cases e
  | some d =>
    cases h2 : pyH h y with
    | none => rw [h1, h2] at e; cases e
    | some d' =>
      rw [h1, h2] at e
      simp only [] at e ⊢
      split at e
      · rename_i sh
        rw [if_pos sh]
        injection e with e
        injection e with e
        rw [← e]
        cases PyData.eqv d d' <;> rfl
      · cases e
end GB
namespace GB
open PySem PySem.Spec PyProof.Rows L2
/-! ### the steps of a line -/
section
variable {u l x j m : Int}
theorem near_nn (h : 0 < l) (hu : 0 ≤ u) : near u l = (2 * u + l) / (2 * l) := by
  unfold near
  rw [if_neg (by omega), show (u.natAbs : Int) = u by omega]
theorem near_neg (h : 0 < l) : near (-u) l = -near u l := by
  rcases Int.lt_trichotomy u 0 with q | q | q
  · unfold near
    rw [if_neg (by omega), if_pos q, show (-u).natAbs = u.natAbs by omega]; omega
  · subst q
    rw [show (-(0 : Int)) = 0 by omega, near_zero h]; rfl
  · unfold near
    rw [if_pos (by omega), if_neg (by omega), show (-u).natAbs = u.natAbs by omega]
theorem near_shift_nn (h : 0 < l) (hj : 0 ≤ j) (hx : 0 ≤ x) : near ((l + j) * x) l = x + near (j * x) l := by
  have a : 0 ≤ j * x := Int.mul_nonneg hj hx
  have b : 0 ≤ (l + j) * x := Int.mul_nonneg (by omega) hx
  rw [near_nn h b, near_nn h a]
  rw [show 2 * ((l + j) * x) + l = (2 * (j * x) + l) + 2 * l * x by rw [Int.add_mul, Int.mul_add, Int.mul_assoc]; omega, Int.add_mul_ediv_left _ _ (by omega)]
  omega
theorem near_shift (h : 0 < l) (hj : 0 ≤ j) : near ((l + j) * x) l = x + near (j * x) l := by
  rcases Int.le_total 0 x with q | q
  · exact near_shift_nn h hj q
  · have := near_shift_nn (x := -x) h hj (by omega)
    rw [Int.mul_neg, Int.mul_neg, near_neg h, near_neg h] at this
    omega
theorem near_scale (h : 0 < l) (hm : 0 < m) : near (m * u) (m * l) = near u l := by
  have hml : 0 < m * l := Int.mul_pos hm h
  have nn : ∀ v : Int, 0 ≤ v → near (m * v) (m * l) = near v l := fun v hv => by
    rw [near_nn hml (Int.mul_nonneg (by omega) hv), near_nn h hv]
    rw [show 2 * (m * v) + m * l = m * (2 * v + l) by rw [Int.mul_add, Int.mul_left_comm], show 2 * (m * l) = m * (2 * l) by rw [Int.mul_left_comm], Int.mul_ediv_mul_of_pos _ _ hm]
  rcases Int.le_total 0 u with q | q
  · exact nn u q
  · have := nn (-u) (by omega)
    rw [Int.mul_neg, near_neg hml, near_neg h] at this
    omega
theorem near_step_nn (h : 0 < l) (hu : 0 ≤ u) (x0 : 0 ≤ x) (x1 : x ≤ l) : 0 ≤ near (u + x) l - near u l ∧ near (u + x) l - near u l ≤ 1 := by
  rw [near_nn h (by omega), near_nn h hu]
  have a : (2 * u + l) / (2 * l) ≤ (2 * (u + x) + l) / (2 * l) := Int.ediv_le_ediv (by omega) (by omega)
  have b : (2 * (u + x) + l) / (2 * l) ≤ (2 * u + l + 2 * l * 1) / (2 * l) := Int.ediv_le_ediv (by omega) (by omega)
  rw [Int.add_mul_ediv_left _ _ (by omega)] at b
  omega
theorem near_step (h : 0 < l) (hj : 0 ≤ j) (x0 : -l ≤ x) (x1 : x ≤ l) : -1 ≤ near ((j + 1) * x) l - near (j * x) l ∧ near ((j + 1) * x) l - near (j * x) l ≤ 1 := by
  rcases Int.le_total 0 x with q | q
  · have := near_step_nn (u := j * x) (x := x) h (Int.mul_nonneg hj q) q x1
    rw [show (j + 1) * x = j * x + x by rw [Int.add_mul, Int.one_mul]]
    omega
  · have := near_step_nn (u := j * -x) (x := -x) h (Int.mul_nonneg hj (by omega)) (by omega) (by omega)
    rw [show j * -x + -x = -((j + 1) * x) by rw [Int.add_mul, Int.one_mul, Int.mul_neg]; omega, Int.mul_neg, near_neg h, near_neg h] at this
    omega
/-- no farther than half a step, at half a step farther from 0 -/
theorem near_half_nn (h : 0 < l) (hu : 0 ≤ u) : 0 ≤ near u l ∧ (2 * (near u l * l - u)) ≤ l ∧ -l < (2 * (near u l * l - u)) := by
  rw [near_nn h hu]
  have a := Int.mul_ediv_add_emod (2 * u + l) (2 * l)
  have b := Int.emod_nonneg (2 * u + l) (by omega : 2 * l ≠ 0)
  have c := Int.emod_lt_of_pos (2 * u + l) (by omega : 0 < 2 * l)
  have d : 0 ≤ (2 * u + l) / (2 * l) := Int.ediv_nonneg (by omega) (by omega)
  generalize (2 * u + l) / (2 * l) = q at *
  generalize (2 * u + l) % (2 * l) = r at *
  have e : 2 * l * q = 2 * (q * l) := by rw [Int.mul_assoc, Int.mul_comm l q]
  rw [e] at a
  refine ⟨d, ?_, ?_⟩ <;> omega
theorem near_half (h : 0 < l) : ((2 * (near u l * l - u)).natAbs : Int) ≤ l ∧ (((2 * (near u l * l - u)).natAbs : Int) = l → (u.natAbs : Int) ≤ ((near u l * l).natAbs : Int)) := by
  rcases Int.le_total 0 u with q | q
  · obtain ⟨n, a, b⟩ := near_half_nn h q
    have c : 0 ≤ near u l * l := Int.mul_nonneg n (by omega)
    refine ⟨by omega, fun e => ?_⟩
    omega
  · obtain ⟨n, a, b⟩ := near_half_nn (u := -u) h (by omega)
    have c : 0 ≤ near (-u) l * l := Int.mul_nonneg n (by omega)
    rw [near_neg h, Int.neg_mul] at a b c
    refine ⟨by omega, fun e => ?_⟩
    omega
end
/-- where the axes stand behind k steps -/
def stL (xs : List Int) (k : Int) : List Int := xs.map fun x => near (k * x) (lead xs)
/-- step k + 1 -/
def rwL (xs : List Int) (k : Int) : List Int := xs.map fun x => near ((k + 1) * x) (lead xs) - near (k * x) (lead xs)
def rwT (xs : List Int) : List T := (List.range (lead xs).toNat).map fun (k : Nat) => T.tup ((rwL xs (k : Int)).map T.int)
theorem rw_zip {xs : List Int} {k : Int} : ((stL xs k).zip (stL xs (k + 1))).map (fun p => p.2 - p.1) = rwL xs k := by
  unfold stL rwL
  generalize lead xs = L
  induction xs with
  | nil => rfl
  | cons x xs ih => simp only [List.map_cons, List.zip_cons_cons]; rw [ih]
theorem stL_len {xs : List Int} {k : Int} : (stL xs k).length = xs.length := by unfold stL; simp
theorem rwL_len {xs : List Int} {k : Int} : (rwL xs k).length = xs.length := by unfold rwL; simp
theorem map_getD {g : Int → Int} {xs : List Int} {i : Nat} (h : i < xs.length) : (xs.map g).getD i 0 = g (xs.getD i 0) := by
  rw [List.getD_eq_getElem?_getD, List.getD_eq_getElem?_getD, List.getElem?_map, List.getElem?_eq_getElem h]
  rfl
section
variable {n : Nat} {ps : List Nat} {sg : List Int} {xs : List Int}
theorem near_sign {s u l : Int} (h : 0 < l) (hs : s = 1 ∨ s = -1) : near (s * u) l = s * near u l := by
  rcases hs with rfl | rfl
  · rw [Int.one_mul, Int.one_mul]
  · rw [show (-1 : Int) * u = -u by omega, near_neg h]; omega
theorem turn_map {g g' : Int → Int} (K : TurnOk n ps sg) (h : xs.length = n) (e : ∀ (s x : Int), s = 1 ∨ s = -1 → g' (s * x) = s * g x) : (turnL ps sg xs).map g' = turnL ps sg (xs.map g) := by
  unfold turnL
  rw [List.map_map]
  refine List.map_congr_left fun p mp => ?_
  have m := List.of_mem_zip mp
  have hl := K.lt _ m.1
  show g' (p.2 * xs.getD p.1 0) = p.2 * (xs.map g).getD p.1 0
  rw [e _ _ (K.one _ m.2), map_getD (by omega)]
theorem turn_st (K : TurnOk n ps sg) (h : xs.length = n) (p : 0 < lead xs) {k : Int} : stL (turnL ps sg xs) k = turnL ps sg (stL xs k) := by
  unfold stL
  rw [turnL_lead K h]
  exact turn_map K h fun s x hs => by rw [Int.mul_left_comm, near_sign p hs]
theorem turn_rw (K : TurnOk n ps sg) (h : xs.length = n) (p : 0 < lead xs) {k : Int} : rwL (turnL ps sg xs) k = turnL ps sg (rwL xs k) := by
  unfold rwL
  rw [turnL_lead K h]
  exact turn_map K h fun s x hs => by rw [Int.mul_left_comm, near_sign p hs, Int.mul_left_comm, near_sign p hs, Int.mul_sub]
end
/-- so many times as long -/
theorem lead_times {m : Int} {xs : List Int} (hm : 0 < m) : lead (xs.map fun x => m * x) = m * lead xs := by
  refine Int.le_antisymm ?_ ?_
  · refine lead_le (Int.mul_nonneg (by omega) lead_nonneg) fun z mz => ?_
    obtain ⟨x, mx, rfl⟩ := List.mem_map.mp mz
    have a := le_lead mx
    have b : m * x ≤ m * lead xs := Int.mul_le_mul_of_nonneg_left (by omega) (by omega)
    have c : m * (-x) ≤ m * lead xs := Int.mul_le_mul_of_nonneg_left (by omega) (by omega)
    rw [Int.mul_neg] at c
    omega
  · -- some x has the lead
    have go : lead xs ≤ lead (xs.map fun x => m * x) / m := by
      refine lead_le (Int.ediv_nonneg lead_nonneg (by omega)) fun x mx => ?_
      have a := le_lead (List.mem_map.mpr ⟨x, mx, rfl⟩ : m * x ∈ xs.map fun x => m * x)
      have b1 : x ≤ lead (xs.map fun x => m * x) / m := (Int.le_ediv_iff_mul_le hm).mpr (by rw [Int.mul_comm]; omega)
      have b2 : -x ≤ lead (xs.map fun x => m * x) / m := (Int.le_ediv_iff_mul_le hm).mpr (by rw [Int.neg_mul, Int.mul_comm]; omega)
      omega
    have := (Int.le_ediv_iff_mul_le hm).mp go
    rw [Int.mul_comm]; exact this
theorem st_times {m : Int} {xs : List Int} (hm : 0 < m) (p : 0 < lead xs) {k : Int} : stL (xs.map fun x => m * x) k = stL xs k := by
  unfold stL
  rw [lead_times hm, List.map_map]
  refine List.map_congr_left fun x _ => ?_
  show near (k * (m * x)) (m * lead xs) = _
  rw [Int.mul_left_comm, near_scale p hm]
theorem rw_times {m : Int} {xs : List Int} (hm : 0 < m) (p : 0 < lead xs) {k : Int} : rwL (xs.map fun x => m * x) k = rwL xs k := by
  unfold rwL
  rw [lead_times hm, List.map_map]
  refine List.map_congr_left fun x _ => ?_
  show near ((k + 1) * (m * x)) (m * lead xs) - near (k * (m * x)) (m * lead xs) = _
  rw [Int.mul_left_comm, near_scale p hm, Int.mul_left_comm, near_scale p hm]
theorem rw_shift {xs : List Int} (p : 0 < lead xs) {k : Int} (h : 0 ≤ k) : rwL xs (lead xs + k) = rwL xs k := by
  unfold rwL
  refine List.map_congr_left fun x _ => ?_
  rw [show lead xs + k + 1 = lead xs + (k + 1) by omega, near_shift p (by omega), near_shift p h]
  omega
theorem rows_times {xs : List Int} (p : 0 < lead xs) : ∀ m : Nat, (List.range (m * (lead xs).toNat)).map (fun (k : Nat) => T.tup ((rwL xs (k : Int)).map T.int)) = (List.replicate m (rwT xs)).flatten
  | 0 => by simp
  | m + 1 => by
    rw [show (m + 1) * (lead xs).toNat = (lead xs).toNat + m * (lead xs).toNat by rw [Nat.succ_mul, Nat.add_comm], List.range_add, List.map_append, List.map_map, List.replicate_succ, List.flatten_cons]
    congr 1
    rw [← rows_times p m]
    refine List.map_congr_left fun k _ => ?_
    show T.tup ((rwL xs (((lead xs).toNat + k : Nat) : Int)).map T.int) = _
    rw [show (((lead xs).toNat + k : Nat) : Int) = lead xs + (k : Int) by omega, rw_shift p (by omega)]
theorem rwT_times {m : Nat} {xs : List Int} (hm : 0 < m) (p : 0 < lead xs) : rwT (xs.map fun x => (m : Int) * x) = (List.replicate m (rwT xs)).flatten := by
  rw [← rows_times p m]
  unfold rwT
  rw [lead_times (by omega : 0 < (m : Int))]
  have e : ((m : Int) * lead xs).toNat = m * (lead xs).toNat := by
    obtain ⟨l, hl⟩ : ∃ l : Nat, lead xs = (l : Int) := ⟨(lead xs).toNat, by omega⟩
    rw [hl, ← Int.natCast_mul, Int.toNat_natCast, Int.toNat_natCast]
  rw [e]
  exact List.map_congr_left fun k _ => by rw [rw_times (by omega) p]
theorem rwT_turn {n : Nat} {ps : List Nat} {sg : List Int} {xs : List Int} (K : TurnOk n ps sg) (h : xs.length = n) (p : 0 < lead xs) : rwT (turnL ps sg xs) = (List.range (lead xs).toNat).map fun (k : Nat) => T.tup ((turnL ps sg (rwL xs (k : Int))).map T.int) := by
  unfold rwT
  rw [turnL_lead K h]
  exact List.map_congr_left fun k _ => by rw [turn_rw K h p]
theorem rwT_len {xs : List Int} : (rwT xs).length = (lead xs).toNat := by unfold rwT; simp
theorem sh_rows {l : List (List Int)} : shT 2 (.lst (l.map fun r => T.tup (r.map T.int))) = true := by
  show shL 1 (l.map fun r => T.tup (r.map T.int)) = true
  exact shL_map fun r _ => sh_ints
theorem rwT_map {xs : List Int} : rwT xs = ((List.range (lead xs).toNat).map fun (k : Nat) => rwL xs (k : Int)).map fun r => T.tup (r.map T.int) := by
  unfold rwT
  rw [List.map_map]; rfl
end GB
namespace GB
open PySem PySem.Spec PyProof.Rows L2
/-! ### fractions reckoned with -/
/-- f is p over q -/
structure Val (f : Fr2) (p q : Int) : Prop where
  fq : Fq f.1 f.2
  pos : 0 < q
  eq : f.1 * q = p * f.2
theorem val_low {p q : Int} (h : 0 < q) : Val (lowF p q) p q := by
  refine ⟨fq_of h, h, ?_⟩
  obtain ⟨a, ea⟩ := Int.gcd_dvd_left p q
  obtain ⟨b, eb⟩ := Int.gcd_dvd_right p q
  have g0 := gcd_pos_of (p := p) h
  show p / (Int.gcd p q : Int) * q = p * (q / (Int.gcd p q : Int))
  generalize (Int.gcd p q : Int) = g at *
  have e1 : p / g = a := by rw [ea]; exact Int.mul_ediv_cancel_left _ (by omega)
  have e2 : q / g = b := by rw [eb]; exact Int.mul_ediv_cancel_left _ (by omega)
  rw [e1, e2, ea, eb]
  ac_rfl
theorem val_self {f : Fr2} (h : Fq f.1 f.2) : Val f f.1 f.2 := ⟨h, h.pos, rfl⟩
/-- the same number, the same fraction -/
theorem Val.same {f g : Fr2} {p q r s : Int} (a : Val f p q) (b : Val g r s) (e : p * s = r * q) : f = g := by
  have h : f.1 * g.2 = g.1 * f.2 := by
    have h1 : (f.1 * g.2) * (q * s) = (g.1 * f.2) * (q * s) := by
      have := a.eq
      have := b.eq
      grind
    exact Int.eq_of_mul_eq_mul_right (Int.ne_of_gt (Int.mul_pos a.pos b.pos)) h1
  exact leF_antisymm a.fq b.fq (Int.le_of_eq h) (Int.le_of_eq h.symm)
theorem Val.scale {f : Fr2} {p q r s : Int} (a : Val f p q) (hs : 0 < s) (e : p * s = r * q) : Val f r s := by
  refine ⟨a.fq, hs, ?_⟩
  have h1 : (f.1 * s) * q = (r * f.2) * q := by
    have := a.eq
    grind
  exact Int.eq_of_mul_eq_mul_right (Int.ne_of_gt a.pos) h1
def plusF (f g : Fr2) : Fr2 := lowF (f.1 * g.2 + g.1 * f.2) (f.2 * g.2)
def minusF (f g : Fr2) : Fr2 := lowF (f.1 * g.2 - g.1 * f.2) (f.2 * g.2)
def timesF (f g : Fr2) : Fr2 := lowF (f.1 * g.1) (f.2 * g.2)
section
variable {f g : Fr2} {p q r s : Int}
theorem val_plus (a : Val f p q) (b : Val g r s) : Val (plusF f g) (p * s + r * q) (q * s) := by
  refine (val_low (p := f.1 * g.2 + g.1 * f.2) (Int.mul_pos a.fq.pos b.fq.pos)).scale (Int.mul_pos a.pos b.pos) ?_
  have := a.eq
  have := b.eq
  grind
theorem val_minus (a : Val f p q) (b : Val g r s) : Val (minusF f g) (p * s - r * q) (q * s) := by
  refine (val_low (p := f.1 * g.2 - g.1 * f.2) (Int.mul_pos a.fq.pos b.fq.pos)).scale (Int.mul_pos a.pos b.pos) ?_
  have := a.eq
  have := b.eq
  grind
theorem val_times (a : Val f p q) (b : Val g r s) : Val (timesF f g) (p * r) (q * s) := by
  refine (val_low (p := f.1 * g.1) (Int.mul_pos a.fq.pos b.fq.pos)).scale (Int.mul_pos a.pos b.pos) ?_
  have := a.eq
  have := b.eq
  grind
/-- less, by any numbers -/
theorem Val.lt (a : Val f p q) (b : Val g r s) : (f.1 * g.2 < g.1 * f.2) ↔ (p * s < r * q) := by
  have k1 := Int.mul_pos a.pos b.pos
  have k2 := Int.mul_pos a.fq.pos b.fq.pos
  have h1 : (f.1 * g.2) * (q * s) = (p * s) * (f.2 * g.2) := by
    have := a.eq
    grind
  have h2 : (g.1 * f.2) * (q * s) = (r * q) * (f.2 * g.2) := by
    have := b.eq
    grind
  constructor
  · intro z
    have : (f.1 * g.2) * (q * s) < (g.1 * f.2) * (q * s) := Int.mul_lt_mul_of_pos_right z k1
    rw [h1, h2] at this
    exact Int.lt_of_mul_lt_mul_right this (Int.le_of_lt k2)
  · intro z
    have : (p * s) * (f.2 * g.2) < (r * q) * (f.2 * g.2) := Int.mul_lt_mul_of_pos_right z k2
    rw [← h1, ← h2] at this
    exact Int.lt_of_mul_lt_mul_right this (Int.le_of_lt k1)
theorem Val.num (a : Val f p q) : 0 < f.1 ↔ 0 < p := by
  have h := a.eq
  have q0 := a.pos
  have f0 := a.fq.pos
  constructor
  · intro z
    have : 0 < f.1 * q := Int.mul_pos z q0
    rw [h] at this
    exact Int.pos_of_mul_pos_right (by rw [Int.mul_comm]; exact this) f0
  · intro z
    have : 0 < p * f.2 := Int.mul_pos z f0
    rw [← h] at this
    exact Int.pos_of_mul_pos_right (by rw [Int.mul_comm]; exact this) q0
end
/-- in, among fractions -/
theorem notIn_frt {f : Fr2} {fs : List Fr2} {h : IH} (m : f ∈ fs) : gInD true (frt f) (.lst (frL fs)) h = some (.bl false) := by
  obtain ⟨d, h1, h2⟩ := sh_shaped (h := h) (t := frt f) (k := 1) (by decide) rfl
  obtain ⟨e, h3, h4⟩ := sh_shaped (h := h) (t := .lst (frL fs)) (k := 2) (by decide) sh_frL
  obtain ⟨ds, hd, he⟩ := Option.map_eq_some_iff.mp (show (pyL (frL fs)).map PyData.list = some e from h3)
  subst he
  show (match pyH h (frt f), pyH h (.lst (frL fs)) with | some d, some (.list ds) => if (SeqAt.shaped d && SeqAt.shaped (.list ds)) = true then some (T.bl (true ^^ ds.any fun z => PyData.eqv z d)) else none | _, _ => none) = _
  rw [h1, h3]
  simp only []
  rw [h2, h4, if_pos (by rfl : (true && true) = true)]
  have mem : ∀ (l : List Fr2) (ds : List PyData), pyL (frL l) = some ds → f ∈ l → d ∈ ds := fun l => by
    induction l with
    | nil => intro ds _ m; cases m
    | cons g l ih =>
      intro ds e m
      have e' : (match py0 (frt g), pyL (frL l) with | some d, some ds => some (d :: ds) | _, _ => none) = some ds := e
      split at e'
      · rename_i d1 ds1 k1 k2
        cases e'
        rcases List.mem_cons.mp m with z | m
        · rw [z] at h1
          have : pyH h (frt g) = py0 (frt g) := rfl
          rw [this, k1] at h1
          cases h1
          exact List.mem_cons_self
        · exact List.mem_cons_of_mem _ (ih ds1 k2 m)
      · cases e'
  have : (ds.any fun z => PyData.eqv z d) = true := List.any_eq_true.mpr ⟨d, mem fs ds hd m, SeqAt.eqv_refl d (SeqAt.canLay_of_shaped h2)⟩
  rw [this]; rfl
end GB
namespace GB
open PySem PySem.Spec PyProof.Rows L2
/-! ### tapes -/
theorem strOk_join {zs : List Str} (h : ∀ z ∈ zs, PyData.strOk z = true) : PyData.strOk (Txt.join "" zs) = true := by
  show (Builtin.Str.glued "" zs).cps.all (fun x => decide (x < 1114112)) = true
  unfold Builtin.Str.glued
  have go : ∀ (l : List Str) (a : Array Nat), a.all (fun x => decide (x < 1114112)) = true → (∀ z ∈ l, PyData.strOk z = true) → (l.foldl (fun acc p => acc ++ ("" : Str).cps ++ p.cps) a).all (fun x => decide (x < 1114112)) = true := fun l => by
    induction l with
    | nil => intro a ha _; exact ha
    | cons z l ih =>
      intro a ha hz
      refine ih _ ?_ fun w mw => hz w (List.mem_cons_of_mem _ mw)
      have h1 : z.cps.all (fun x => decide (x < 1114112)) = true := hz z List.mem_cons_self
      have e0 : (("" : Str).cps.all fun x => decide (x < 1114112)) = true := by decide +kernel
      rw [Array.all_append, Array.all_append, ha, h1, e0]
      rfl
  refine go _ _ ?_ fun z mz => h z (List.mem_of_mem_drop mz)
  cases zs with
  | nil =>
    show (Str.empty.cps.all fun x => decide (x < 1114112)) = true
    decide +kernel
  | cons z zs => exact h z List.mem_cons_self
theorem lead_has {xs : List Int} (h : 0 < lead xs) : ∃ x ∈ xs, (x.natAbs : Int) = lead xs := by
  induction xs with
  | nil => exact absurd h (by decide)
  | cons x xs ih =>
    rw [lead_cons] at h ⊢
    by_cases q : lead xs ≤ (x.natAbs : Int)
    · exact ⟨x, List.mem_cons_self, by omega⟩
    · obtain ⟨y, my, e⟩ := ih (by have := Int.natCast_nonneg x.natAbs; omega)
      exact ⟨y, List.mem_cons_of_mem _ my, by omega⟩
theorem rw_lead {xs : List Int} {k : Int} (h : 0 < lead xs) (k0 : 0 ≤ k) : lead (rwL xs k) = 1 := by
  refine Int.le_antisymm ?_ ?_
  · refine lead_le (by decide) fun z mz => ?_
    unfold rwL at mz
    obtain ⟨x, mx, rfl⟩ := List.mem_map.mp mz
    have le := le_lead mx
    exact near_step h k0 (by omega) (by omega)
  · obtain ⟨x, mx, e⟩ := lead_has h
    have m : near ((k + 1) * x) (lead xs) - near (k * x) (lead xs) ∈ rwL xs k := List.mem_map.mpr ⟨x, mx, rfl⟩
    have b := le_lead m
    rcases (by omega : x = lead xs ∨ x = -lead xs) with z | z
    · have e1 : near ((k + 1) * x) (lead xs) = k + 1 := by rw [z, Int.mul_comm]; exact near_mul h
      have e2 : near (k * x) (lead xs) = k := by rw [z, Int.mul_comm]; exact near_mul h
      rw [e1, e2] at b
      omega
    · have e1 : near ((k + 1) * x) (lead xs) = -(k + 1) := by rw [z, Int.mul_neg, near_neg h, Int.mul_comm, near_mul h]
      have e2 : near (k * x) (lead xs) = -k := by rw [z, Int.mul_neg, near_neg h, Int.mul_comm, near_mul h]
      rw [e1, e2] at b
      omega
/-- the square of step k of a line -/
def midF (r f : Int) (top b e : Fr2) (L k : Int) : Fr2 := lesserF (lesserF (plusK b (r * (2 * k - 1))) top) (plusK e (f * (2 * (L - k) + 1)))
/-- a square as it stands in a tape: above nought, its numbers bounded -/
structure Sq (f : Fr2) : Prop where
  fq : Fq f.1 f.2
  pos : 1 ≤ f.1
  hi : f.1 ≤ 10 ^ 31
  qm : f.2 ≤ 10 ^ 30
theorem Sq.ok {f : Fr2} (k : Sq f) : Fok (10 ^ 50) f := ⟨k.fq, by have := k.pos; omega, by have := k.hi; omega, by have := k.qm; omega⟩
theorem sq_plus {b : Fr2} {k : Int} (fq : Fq b.1 b.2) (n : 0 ≤ b.1) (hi : b.1 ≤ 10 ^ 29) (qm : b.2 ≤ 10 ^ 25) (k1 : 1 ≤ k) (k2 : k ≤ 100000) : Sq (plusK b k) := by
  have q0 := fq.pos
  have h1 : k * b.2 ≤ 100000 * 10 ^ 25 := Int.mul_le_mul k2 qm (by omega) (by decide)
  have h0 : 1 * 1 ≤ k * b.2 := Int.mul_le_mul k1 q0 (by decide) (by omega)
  exact ⟨plusK_fq fq, by show 1 ≤ b.1 + k * b.2; omega, by show b.1 + k * b.2 ≤ 10 ^ 31; omega, by show b.2 ≤ 10 ^ 30; omega⟩
theorem sq_lesser {f g : Fr2} (a : Sq f) (b : Sq g) : Sq (lesserF f g) := by unfold lesserF; split <;> assumption
structure Bq (f : Fr2) : Prop where
  fq : Fq f.1 f.2
  nn : 0 ≤ f.1
  hi : f.1 ≤ 10 ^ 29
  qm : f.2 ≤ 10 ^ 25
theorem Bd.bq {n : Nat} {f : Fr2} (b : Bd n f) (h : n ≤ 10000) : Bq f := ⟨b.fq, b.lo, by
  have := b.hi
  have : ((n : Int) + 1) * 10 ^ 18 ≤ 10001 * 10 ^ 18 := Int.mul_le_mul_of_nonneg_right (by omega) (by decide)
  omega, by have := b.qm; omega⟩
theorem top_sq {s rate : Int} (s1 : 1 ≤ s) (s2 : s ≤ 20) (r1 : 10 ≤ rate) (r2 : rate ≤ 200) : Sq (topF s rate) := by
  have k := topF_ok s1 s2 r1 r2
  have h1 : 1 * 10 ≤ s * rate := Int.mul_le_mul s1 r1 (by decide) (by omega)
  have h0 : 10 * 10 ≤ (s * rate) * (s * rate) := Int.mul_le_mul (by omega) (by omega) (by decide) (by omega)
  refine ⟨k.fq, ?_, by have := k.hi; omega, by have := k.qm; omega⟩
  have v := val_low (p := (s * rate) * (s * rate)) (q := 10000) (by decide)
  have := v.num.mpr (by omega)
  exact this
theorem mid_sq {r f : Int} {top b e : Fr2} {L k : Int} (a0 : 1 ≤ r) (a1 : r ≤ 50) (b0 : 1 ≤ f) (b1 : f ≤ 50) (ht : Sq top) (hb : Bq b) (he : Bq e) (k1 : 1 ≤ k) (kL : k ≤ L) (L1 : L ≤ 100) : Sq (midF r f top b e L k) := by
  have h1 : r * (2 * k - 1) ≤ 50 * 199 := Int.mul_le_mul a1 (by omega) (by omega) (by decide)
  have h0 : 1 * 1 ≤ r * (2 * k - 1) := Int.mul_le_mul a0 (by omega) (by decide) (by omega)
  have g1 : f * (2 * (L - k) + 1) ≤ 50 * 199 := Int.mul_le_mul b1 (by omega) (by omega) (by decide)
  have g0 : 1 * 1 ≤ f * (2 * (L - k) + 1) := Int.mul_le_mul b0 (by omega) (by decide) (by omega)
  exact sq_lesser (sq_lesser (sq_plus hb.fq hb.nn hb.hi hb.qm (by omega) (by omega)) ht) (sq_plus he.fq he.nn he.hi he.qm (by omega) (by omega))
def IsTick (d : Int) (q : Fr2) (t : Int) : Prop := 1 ≤ t ∧ d * d * q.2 ≤ t * t * q.1 ∧ (1 < t → (t - 1) * (t - 1) * q.1 < d * d * q.2)
theorem tick_le {d : Int} {q : Fr2} {t u : Int} (q0 : 0 ≤ q.1) (a : IsTick d q t) (b : IsTick d q u) : t ≤ u := by
  rcases Int.lt_or_le u t with h | h
  · have h1 := a.2.2 (by have := b.1; omega)
    have h2 : u * u ≤ (t - 1) * (t - 1) := Int.mul_le_mul (by omega) (by omega) (by have := b.1; omega) (by have := b.1; omega)
    have h3 : u * u * q.1 ≤ (t - 1) * (t - 1) * q.1 := Int.mul_le_mul_of_nonneg_right h2 q0
    have := b.2.1
    omega
  · exact h
/-- the ticks of a step -/
noncomputable def tickF (d : Int) (q : Fr2) : Int := Classical.epsilon (IsTick d q)
theorem tick_is {d : Int} {q : Fr2} {t : Int} (q0 : 0 ≤ q.1) (a : IsTick d q t) : tickF d q = t := by
  have b : IsTick d q (tickF d q) := Classical.epsilon_spec ⟨t, a⟩
  exact Int.le_antisymm (tick_le q0 b a) (tick_le q0 a b)
noncomputable def stepT (d : Int) (row : List Int) (q : Fr2) : T := .tup [.str "step", .tup (row.map T.int), .int (tickF d q), frt q]
noncomputable def stpT (d r f rate : Int) (xs : List Int) (s : Int) (b e : Fr2) : List T :=
  (List.range (lead xs).toNat).map fun (j : Nat) => stepT d (rwL xs (j : Int)) (midF r f (topF s rate) b e (lead xs) ((j : Int) + 1))
noncomputable def entT (d r f rate : Int) (P : Nat → Fr2) (j : Nat) : Itm → List T
  | .line xs s => stpT d r f rate xs s (P j) (P (j + 1))
  | i => [itT i]
noncomputable def tapeGo (d r f rate : Int) (P : Nat → Fr2) : List Itm → Nat → List T
  | [], _ => []
  | i :: is, j => entT d r f rate P j i ++ tapeGo d r f rate P is (j + 1)
theorem stpT_len {d r f rate : Int} {xs : List Int} {s : Int} {b e : Fr2} : (stpT d r f rate xs s b e).length = (lead xs).toNat := by unfold stpT; simp
theorem entT_len {ax : Nat} {d r f rate : Int} {P : Nat → Fr2} {j : Nat} {i : Itm} (o : OkI ax i) : (entT d r f rate P j i).length ≤ 100 := by
  cases i with
  | line xs s =>
    show (stpT d r f rate xs s (P j) (P (j + 1))).length ≤ 100
    rw [stpT_len]
    have := LnOk.lead1 (o : LnOk ax xs s)
    omega
  | _ => show (1 : Nat) ≤ 100; decide
theorem tapeGo_len {ax : Nat} {d r f rate : Int} {P : Nat → Fr2} : ∀ (is : List Itm) (j : Nat), (∀ i ∈ is, OkI ax i) → (tapeGo d r f rate P is j).length ≤ 100 * is.length
  | [], _, _ => Nat.le_refl _
  | i :: is, j, ok => by
    show (entT d r f rate P j i ++ tapeGo d r f rate P is (j + 1)).length ≤ 100 * (is.length + 1)
    rw [List.length_append]
    have h1 := entT_len (d := d) (r := r) (f := f) (rate := rate) (P := P) (j := j) (ok i List.mem_cons_self)
    have h2 := tapeGo_len (d := d) (r := r) (f := f) (rate := rate) (P := P) is (j + 1) fun k mk => ok k (List.mem_cons_of_mem _ mk)
    omega
noncomputable def tapeT (d r f c rate : Int) (is : List Itm) : List T := tapeGo d r f rate (sqAt (planF r f c rate is)) is 0
/-- a place on the rails -/
def OnR (rs ps : List Int) : Prop := All2 (fun r p => 0 ≤ p ∧ p ≤ r) rs ps
/-- the axes led so far, and those to come -/
theorem onr_get {rs ps : List Int} {i : Nat} (o : OnR rs ps) (h : i < ps.length) : ∃ r p, rs[i]? = some r ∧ ps[i]? = some p ∧ 0 ≤ p ∧ p ≤ r := by
  have : ∀ (i : Nat) (rs ps : List Int), All2 (fun r p => 0 ≤ p ∧ p ≤ r) rs ps → i < ps.length → ∃ r p, rs[i]? = some r ∧ ps[i]? = some p ∧ 0 ≤ p ∧ p ≤ r := fun i => by
    induction i with
    | zero =>
      intro rs ps o h
      cases o with
      | nil => exact absurd h (by decide)
      | cons q _ => exact ⟨_, _, rfl, rfl, q.1, q.2⟩
    | succ i ih =>
      intro rs ps o h
      cases o with
      | nil => exact absurd h (by simp)
      | cons q o =>
        obtain ⟨r, p, e1, e2, e3⟩ := ih _ _ o (by simpa using h)
        exact ⟨r, p, by simpa using e1, by simpa using e2, e3⟩
  exact this i rs ps o h
theorem onr_of {rs ps : List Int} (hl : rs.length = ps.length) (h : ∀ (i : Nat) (r p : Int), rs[i]? = some r → ps[i]? = some p → 0 ≤ p ∧ p ≤ r) : OnR rs ps := by
  have : ∀ (rs ps : List Int), rs.length = ps.length → (∀ (i : Nat) (r p : Int), rs[i]? = some r → ps[i]? = some p → 0 ≤ p ∧ p ≤ r) → All2 (fun r p => 0 ≤ p ∧ p ≤ r) rs ps := fun rs => by
    induction rs with
    | nil => intro ps hl _; cases ps with | nil => exact .nil | cons _ _ => cases hl
    | cons r rs ih =>
      intro ps hl h
      cases ps with
      | nil => cases hl
      | cons p ps => exact .cons (h 0 r p rfl rfl) (ih ps (by simpa using hl) fun i r p e1 e2 => h (i + 1) r p (by simpa using e1) (by simpa using e2))
  exact this rs ps hl h
/-- steps that stay on the rails -/
def StepsOk (rs ps xs : List Int) : Prop := ∀ (i : Nat) (r p x : Int), rs[i]? = some r → ps[i]? = some p → xs[i]? = some x → 0 ≤ p + x ∧ p + x ≤ r
end GB
namespace GB
open PySem PySem.Spec PyProof.Rows L2
/-! ### zip over two lists or two tuples -/
def iZE (f g : SE) : SI := fun τ h => (f τ h).bind fun x h1 => (g τ h1).bind fun y h2 =>
  match x, y with
  | .lst xs, .lst ys => .ok (zipT xs ys) h2
  | .tup xs, .tup ys => .ok (zipT xs ys) h2
  | _, _ => .no
section
variable {X : Cx} {E : WX} {en : Ent} {rk kd k1 : Kd} {lin lin' : List Nat} {tg a b : Expr} {fa fb : SE} {p pos tpos : Pos} {elts : List Expr} {kk : Nat} {st : List Stmt}
theorem pssb_no : PSsB X E en rk lin lin' st sNo := ⟨fun pins s σ H D I ⟨_, _, _, _, _, o⟩ => o.elim⟩
theorem pib_zE (hg : Gl X "zip") (hm : X.mg "zip" = none) (ha : PEB X E lin .fz a fa) (hb : PEB X E lin .fz b fb) (hs : starEach [a, b] X.env = (false, eval a X.env) :: starEach [b] X.env := by rfl) (hs2 : starEach [b] X.env = (false, eval b X.env) :: starEach [] X.env := by rfl)
    (hpl : (backTo pos (starEach [b] X.env)).any (·.1) = false := by rfl) : PIB X E lin (.Tuple elts kk tpos) (.Call (.Name "zip" p) [a, b] [] pos) (iZE fa fb) :=
  impI (RZ.pi_zipA hg hm (pa_cons ha (pa_cons hb pa_nil hs2) hs) hs hpl) fun σ H Q ⟨G, R, τ, h, N0, gd, fr, o⟩ => by
    refine lE.then gd fr o fun x vx h1 G1 R1 H1 g1 e1 f1 r1 o1 => ?_
    refine lE.then g1 f1 o1 fun y vy h2 G2 R2 H2 g2 e2 f2 r2 o2 => ?_
    have r1' := e2.rp r1
    cases x with
    | lst ts =>
      cases y with
      | lst us =>
        cases r1' with
        | lst q k =>
          cases r2 with
          | lst q' k' => exact ⟨_, _, _, _, rfl, .inl ⟨g2.sqL q, g2.sqL q', o2 G2 R2 H2 g2 .refl _ (it_zipL q k q' k')⟩⟩
      | _ => exact False.elim o2
    | tup ts =>
      cases y with
      | tup us =>
        cases r1' with
        | tup q k =>
          cases r2 with
          | tup q' k' => exact ⟨_, _, _, _, rfl, .inr ⟨g2.sqT q, g2.sqT q', o2 G2 R2 H2 g2 .refl _ (it_zipT q k q' k')⟩⟩
      | _ => exact False.elim o2
    | _ => exact False.elim o2
end
section
variable {τ : Ev} {h : IH} {f g : SE} {PL : List T → IH → Prop}
theorem w_iZE : Ok (iZE f g τ h) PL = Ok (f τ h) fun x h1 => Ok (g τ h1) fun y h2 => ∃ xs ys, ((x = .lst xs ∧ y = .lst ys) ∨ (x = .tup xs ∧ y = .tup ys)) ∧ PL (zipT xs ys) h2 := by
  simp only [ok_eq]
  unfold iZE; simp only [d_w_bind]; congr 1; funext x h1; congr 1; funext y h2
  split
  · rename_i xs ys
    exact propext ⟨fun z => ⟨xs, ys, .inl ⟨rfl, rfl⟩, z⟩, fun ⟨_, _, z, p⟩ => by
      rcases z with ⟨z, z'⟩ | ⟨z, z'⟩
      · cases z; cases z'; exact p
      · cases z⟩
  · rename_i xs ys
    exact propext ⟨fun z => ⟨xs, ys, .inr ⟨rfl, rfl⟩, z⟩, fun ⟨_, _, z, p⟩ => by
      rcases z with ⟨z, z'⟩ | ⟨z, z'⟩
      · cases z
      · cases z; cases z'; exact p⟩
  · rename_i e1 e2
    exact propext ⟨fun z => z.elim, fun ⟨xs, ys, z, p⟩ => by
      rcases z with ⟨z, z'⟩ | ⟨z, z'⟩
      · exact (e1 xs ys z z').elim
      · exact (e2 xs ys z z').elim⟩
end
/-! ### trees that are alike to themselves, down to the inner things -/
def alT : Nat → T → Bool
  | _, .int _ => true
  | _, .str s => PyData.strOk s
  | 0, .tup _ => false
  | k + 1, .tup ts => decide (ts.length ≤ 1000000) && ts.all (alT k)
  | 0, .lst _ => false
  | k + 1, .lst ts => decide (ts.length ≤ 1000000) && ts.all (alT k)
  | _, _ => false
theorem al_map {α : Type} {k : Nat} {f : α → T} {l : List α} (h : l.length ≤ 1000000) (e : ∀ x ∈ l, alT k (f x) = true) : alT (k + 1) (.lst (l.map f)) = true := by
  simp only [alT, Bool.and_eq_true, decide_eq_true_eq, List.all_eq_true, List.length_map]
  exact ⟨h, fun y my => by obtain ⟨x, mx, rfl⟩ := List.mem_map.mp my; exact e x mx⟩
theorem al_mapT {α : Type} {k : Nat} {f : α → T} {l : List α} (h : l.length ≤ 1000000) (e : ∀ x ∈ l, alT k (f x) = true) : alT (k + 1) (.tup (l.map f)) = true := by
  simp only [alT, Bool.and_eq_true, decide_eq_true_eq, List.all_eq_true, List.length_map]
  exact ⟨h, fun y my => by obtain ⟨x, mx, rfl⟩ := List.mem_map.mp my; exact e x mx⟩
theorem al_lst {k : Nat} {l : List T} (h : l.length ≤ 1000000) (e : ∀ x ∈ l, alT k x = true) : alT (k + 1) (.lst l) = true := by
  simp only [alT, Bool.and_eq_true, decide_eq_true_eq, List.all_eq_true]
  exact ⟨h, e⟩
theorem al_tup {k : Nat} {l : List T} (h : l.length ≤ 1000000) (e : ∀ x ∈ l, alT k x = true) : alT (k + 1) (.tup l) = true := by
  simp only [alT, Bool.and_eq_true, decide_eq_true_eq, List.all_eq_true]
  exact ⟨h, e⟩
theorem al_frt {f : Fr2} {k : Nat} : alT (k + 1) (frt f) = true := by
  refine al_tup (by show (2 : Nat) ≤ 1000000; decide) fun x m => ?_
  rcases List.mem_cons.mp m with rfl | m
  · cases k <;> rfl
  · rw [List.mem_singleton.mp m]; cases k <;> rfl
theorem al_int {k : Nat} {i : Int} : alT k (.int i) = true := by cases k <;> rfl
theorem al_ints {k : Nat} {xs : List Int} (h : xs.length ≤ 1000000) : alT (k + 1) (.tup (xs.map T.int)) = true := al_mapT h fun _ _ => al_int
theorem al_frL {k : Nat} {fs : List Fr2} (h : fs.length ≤ 1000000) : alT (k + 2) (.lst (frL fs)) = true := al_map h fun _ _ => al_frt
theorem is_lt_int {i : Int} {h : IH} : gIsi ["list", "tuple"] (.int i) h = some (.bl false) := rfl
theorem is_lt_str {z : Str} {h : IH} : gIsi ["list", "tuple"] (.str z) h = some (.bl false) := rfl
theorem is_lt_tup {ts : List T} {h : IH} : gIsi ["list", "tuple"] (.tup ts) h = some (.bl true) := rfl
theorem is_lt_lst {ts : List T} {h : IH} : gIsi ["list", "tuple"] (.lst ts) h = some (.bl true) := rfl
theorem ne_bl {b : Bool} {h : IH} : gNe (.bl b) (.bl b) h = some (.bl false) := q_neR (k := 0) (by decide) rfl
theorem eq_str {z : Str} {h : IH} (e : PyData.strOk z = true) : gEq (.str z) (.str z) h = some (.bl true) := q_eqR (k := 0) (by decide) e
theorem zipT_self : ∀ {ts : List T}, zipT ts ts = ts.map fun t => .tup [t, t]
  | [] => rfl
  | t :: ts => by
    show T.tup [t, t] :: zipT ts ts = _
    rw [zipT_self]
    rfl
theorem lesser_swap {a b c : Fr2} (ha : Fq a.1 a.2) (hb : Fq b.1 b.2) (hc : Fq c.1 c.2) : lesserF (lesserF a b) c = lesserF (lesserF a c) b := by
  have fl : ∀ {x y : Fr2}, Fq x.1 x.2 → Fq y.1 y.2 → Fq (lesserF x y).1 (lesserF x y).2 := fun p q => by unfold lesserF; split <;> assumption
  have tr : ∀ {x y z : Fr2}, Fq x.1 x.2 → Fq y.1 y.2 → Fq z.1 z.2 → leF x y → leF y z → leF x z := fun p q r => leF_trans p.pos q.pos r.pos
  refine leF_antisymm (fl (fl ha hb) hc) (fl (fl ha hc) hb) ?_ ?_
  · exact le_lesserF (le_lesserF (tr (fl (fl ha hb) hc) (fl ha hb) ha lesserF_le_left lesserF_le_left) lesserF_le_right) (tr (fl (fl ha hb) hc) (fl ha hb) hb lesserF_le_left lesserF_le_right)
  · exact le_lesserF (le_lesserF (tr (fl (fl ha hc) hb) (fl ha hc) ha lesserF_le_left lesserF_le_left) lesserF_le_right) (tr (fl (fl ha hc) hb) (fl ha hc) hc lesserF_le_left lesserF_le_right)
end GB
namespace GB
open PySem PySem.Spec PyProof.Rows L2
/-! ### where items lead -/
def addL (ps xs : List Int) : List Int := (ps.zip xs).map fun p => p.1 + p.2
def ledI (ps : List Int) : Itm → List Int
  | .line xs _ => addL ps xs
  | _ => ps
def endsL (ps : List Int) : List Itm → List (List Int)
  | [] => []
  | i :: is => ledI ps i :: endsL (ledI ps i) is
def endP (ps : List Int) (is : List Itm) : List Int := is.foldl ledI ps
theorem endsL_snoc {i : Itm} : ∀ {is : List Itm} {ps : List Int}, endsL ps (is ++ [i]) = endsL ps is ++ [ledI (endP ps is) i]
  | [], _ => rfl
  | j :: is, ps => by
    show ledI ps j :: endsL (ledI ps j) (is ++ [i]) = _
    rw [endsL_snoc]; rfl
theorem endP_snoc {i : Itm} {is : List Itm} {ps : List Int} : endP ps (is ++ [i]) = ledI (endP ps is) i := by
  unfold endP
  rw [List.foldl_append]; rfl
theorem endsL_len : ∀ {is : List Itm} {ps : List Int}, (endsL ps is).length = is.length
  | [], _ => rfl
  | i :: is, ps => by
    show (endsL (ledI ps i) is).length + 1 = _
    rw [endsL_len]; rfl
theorem onr_addL {rs ps xs : List Int} (o : OnR rs ps) (lx : xs.length = ps.length) (so : StepsOk rs ps xs) : OnR rs (addL ps xs) := by
  have lps := o.len
  unfold addL
  refine onr_of (by rw [List.length_map, List.length_zip]; omega) fun i r q e1 e2 => ?_
  rw [List.getElem?_map] at e2
  obtain ⟨p, ep, rfl⟩ := Option.map_eq_some_iff.mp e2
  obtain ⟨h1, h2⟩ := List.getElem?_zip_eq_some.mp ep
  exact so i r p.1 p.2 e1 h1 h2
/-- the kind of an item, at every heap -/
theorem eq_kindH {i : Itm} : ∃ k ts, itT i = .tup (.str k :: ts) ∧ (∀ h : IH, gEq (.str k) (.str "line") h = some (.bl (isL i))) ∧ ∀ h : IH, gNe (.str k) (.str "line") h = some (.bl (!isL i)) := by
  obtain ⟨k, ts, e, q⟩ := it_kind (h := []) i
  have q2 : ∀ h : IH, gEq (.str k) (.str "line") h = some (.bl (isL i)) := fun h => by
    obtain ⟨k', ts', e', q'⟩ := it_kind (h := h) i
    rw [e] at e'
    cases e'
    exact q'
  exact ⟨k, ts, e, q2, fun h => ne_of_eq (q2 h)⟩
abbrev tupI (xs : List Int) : T := .tup (xs.map T.int)
def plL (l : List (List Int)) : List T := l.map tupI
theorem plL_len {l : List (List Int)} : (plL l).length = l.length := by unfold plL; rw [List.length_map]
theorem sh_plL {l : List (List Int)} : shT 2 (.lst (plL l)) = true := by
  simp only [shT]
  exact shL_map fun _ _ => sh_ints
end GB
namespace GB
open PySem PySem.Spec PyProof.Rows L2
/-! ### any small things -/
def tmT : Nat → T → Bool
  | _, .non => true
  | _, .bl _ => true
  | _, .int _ => true
  | _, .str s => PyData.strOk s && decide (s.length ≤ 1000)
  | 0, .tup _ => false
  | k + 1, .tup ts => decide (ts.length ≤ 1000) && ts.all (tmT k)
  | 0, .lst _ => false
  | k + 1, .lst ts => decide (ts.length ≤ 1000) && ts.all (tmT k)
  | _, .box _ => false
section
variable {k : Nat} {t u : T} {ts us : List T} {h : IH} {i lo hi : Int}
theorem tm_int : tmT k (.int i) = true := by cases k <;> rfl
theorem tm_non : tmT k .non = true := by cases k <;> rfl
theorem tm_bl {b : Bool} : tmT k (.bl b) = true := by cases k <;> rfl
theorem tm_tup : tmT (k + 1) (.tup ts) = true ↔ ts.length ≤ 1000 ∧ ∀ t ∈ ts, tmT k t = true := by
  simp only [tmT, Bool.and_eq_true, decide_eq_true_eq, List.all_eq_true]
theorem tm_lst : tmT (k + 1) (.lst ts) = true ↔ ts.length ≤ 1000 ∧ ∀ t ∈ ts, tmT k t = true := by
  simp only [tmT, Bool.and_eq_true, decide_eq_true_eq, List.all_eq_true]
theorem tm_str {s : Str} : tmT k (.str s) = true ↔ PyData.strOk s = true ∧ s.length ≤ 1000 := by
  cases k <;> simp only [tmT, Bool.and_eq_true, decide_eq_true_eq]
theorem tm_up : ∀ {k : Nat} {t : T}, tmT k t = true → tmT (k + 1) t = true
  | _, .non, _ => rfl
  | _, .bl _, _ => rfl
  | _, .int _, _ => rfl
  | k, .str s, e => tm_str.mpr (tm_str.mp e)
  | 0, .tup ts, e => by cases e
  | k + 1, .tup ts, e => tm_tup.mpr ⟨(tm_tup.mp e).1, fun t m => tm_up ((tm_tup.mp e).2 t m)⟩
  | 0, .lst ts, e => by cases e
  | k + 1, .lst ts, e => tm_lst.mpr ⟨(tm_lst.mp e).1, fun t m => tm_up ((tm_lst.mp e).2 t m)⟩
  | 0, .box _, e => by cases e
  | k + 1, .box _, e => by cases e
theorem tm_sh : ∀ {k : Nat} {t : T}, tmT k t = true → shT k t = true
  | k, .non, _ => by cases k <;> rfl
  | k, .bl _, _ => by cases k <;> rfl
  | k, .int _, _ => by cases k <;> rfl
  | k, .str s, e => by
    have := (tm_str.mp e).1
    cases k <;> exact this
  | 0, .tup ts, e => by cases e
  | k + 1, .tup ts, e => by
    simp only [shT]
    exact shL_all fun t m => tm_sh ((tm_tup.mp e).2 t m)
  | 0, .lst ts, e => by cases e
  | k + 1, .lst ts, e => by
    simp only [shT]
    exact shL_all fun t m => tm_sh ((tm_lst.mp e).2 t m)
  | 0, .box _, e => by cases e
  | k + 1, .box _, e => by cases e
theorem tm_ints {xs : List Int} (l : xs.length ≤ 1000) : tmT (k + 1) (.tup (xs.map T.int)) = true :=
  tm_tup.mpr ⟨by rw [List.length_map]; exact l, fun t m => by obtain ⟨x, _, rfl⟩ := List.mem_map.mp m; exact tm_int⟩
/-- whether a tree is a whole number, within bounds -/
def whB : T → Bool
  | .int _ => true
  | _ => false
def wiB (lo hi : Int) : T → Bool
  | .int a => decide (lo ≤ a ∧ a ≤ hi)
  | _ => false
def plB (rs : List Int) : T → Bool
  | .tup ts => decide (ts.length = rs.length) && ((ts.zip rs).map fun p => wiB 0 p.2 p.1).all id
  | _ => false
def isTup : T → Bool
  | .tup _ => true
  | _ => false
def isLst : T → Bool
  | .lst _ => true
  | _ => false
def isStr : T → Bool
  | .str _ => true
  | _ => false
theorem isi_tup (e : tmT k t = true) : gIsi ["tuple"] t h = some (.bl (isTup t)) := by
  cases t with
  | box n => cases k <;> cases e
  | _ => rfl
theorem isi_str (e : tmT k t = true) : gIsi ["str"] t h = some (.bl (isStr t)) := by
  cases t with
  | box n => cases k <;> cases e
  | _ => rfl
theorem isi_int (e : tmT k t = true) : gIsi ["int"] t h = some (.bl (match t with | .int _ => true | .bl _ => true | _ => false)) := by
  cases t with
  | box n => cases k <;> cases e
  | _ => rfl
theorem isi_bool (e : tmT k t = true) : gIsi ["bool"] t h = some (.bl (match t with | .bl _ => true | _ => false)) := by
  cases t with
  | box n => cases k <;> cases e
  | _ => rfl
theorem isi_lt (e : tmT k t = true) : gIsi ["list", "tuple"] t h = some (.bl (isLst t || isTup t)) := by
  cases t with
  | box n => cases k <;> cases e
  | _ => rfl
theorem zip_maps1 {xs : List Int} {ts : List T} : zipT ts (xs.map T.int) = (ts.zip xs).map fun p => T.tup [p.1, T.int p.2] := by
  induction ts generalizing xs with
  | nil => cases xs <;> rfl
  | cons t ts ih =>
    cases xs with
    | nil => rfl
    | cons x xs =>
      show T.tup [t, T.int x] :: zipT ts (xs.map T.int) = _
      rw [ih]; rfl
end
/-- whether a tree is a fraction -/
def frB : T → Bool
  | .tup [.int a, .int b] => decide (0 < b) && decide (Int.gcd a b = 1)
  | _ => false
theorem frB_1 {x : T} : frB (.tup [x]) = false := by cases x <;> rfl
theorem frB_3 {x y z : T} {ts : List T} : frB (.tup (x :: y :: z :: ts)) = false := by cases x <;> first | rfl | (cases y <;> rfl)
def lstOf : T → T
  | .tup ts => .lst ts
  | t => t
theorem lstOf_sh {k : Nat} : ∀ {t : T}, tmT k t = true → shT k (lstOf t) = true := fun {t} e => by
  have := tm_sh e
  cases t with
  | tup ts => cases k with
    | zero => cases this
    | succ k => exact this
  | _ => exact this
theorem tm_le {t : T} : ∀ {k j : Nat}, tmT j t = true → j ≤ k → tmT k t = true
  | 0, j, e, h => by
    have : j = 0 := by omega
    rw [← this]; exact e
  | k + 1, j, e, h => by
    by_cases z : j = k + 1
    · rw [← z]; exact e
    · exact tm_up (tm_le e (by omega))
theorem notin23 {i : Int} {h : IH} : gIn true (.int i) (.lst [.int 2, .int 3]) h = some (.bl (!(decide (i = 2) || decide (i = 3)))) := by
  show some (T.bl (true ^^ inV (.int i) [.int 2, .int 3])) = _
  have e : ∀ a : Int, eqV (.int a) (.int i) = decide (i = a) := fun a => by
    show (a == i) = _
    rw [Bool.eq_iff_iff, beq_iff_eq, decide_eq_true_iff]
    exact eq_comm
  unfold inV
  simp [e]
theorem notin23t {i : Int} {h : IH} : gIn true (.int i) (.tup [.int 2, .int 3]) h = some (.bl (!(decide (i = 2) || decide (i = 3)))) := notin23 (h := h)
/-- whether trees are rails, a machine -/
def raB : T → Bool
  | .tup ts => (decide ((ts.length : Int) = 2) || decide ((ts.length : Int) = 3)) && ts.all (wiB 1 100)
  | _ => false
def maB : T → Bool
  | .tup ts => decide ((ts.length : Int) = 5) && (raB (ts.getD 0 .non) && (((ts.drop 1).take 3).all (wiB 1 50) && wiB 1 100 (ts.getD 4 .non)))
  | _ => false
theorem all_map {ts : List T} {g : T → Bool} : (ts.map g).all id = ts.all g := by induction ts with
  | nil => rfl
  | cons t ts ih => rw [List.map_cons, List.all_cons, List.all_cons, ih]; rfl
end GB
namespace GB
open PySem PySem.Spec PyProof.Rows L2
/-! ### texts held against one another -/
def gLeS : G2
  | .str a, .str b, _ => some (.bl (!decide (b.cps.toList < a.cps.toList)))
  | _, _, _ => none
def gLtS : G2
  | .str a, .str b, _ => some (.bl (decide (a.cps.toList < b.cps.toList)))
  | _, _, _ => none
theorem o2_leS {K : PySem.W.Frag} : Op2 K (fun x y H Q => ∃ i j, x = .str i ∧ y = .str j ∧ Q (.bl (!decide (j.cps.toList < i.cps.toList))) H) gLeS .fz := by
  intro G R H h x y vx vy z Q g lx ly e k
  unfold gLeS at e
  split at e
  · cases e
    exact ⟨_, _, lx.str, ly.str, k _ G R H g .refl (.bl _)⟩
  · cases e
theorem o2_ltS {K : PySem.W.Frag} : Op2 K (fun x y H Q => ∃ i j, x = .str i ∧ y = .str j ∧ Q (.bl (decide (i.cps.toList < j.cps.toList))) H) gLtS .fz := by
  intro G R H h x y vx vy z Q g lx ly e k
  unfold gLtS at e
  split at e
  · cases e
    exact ⟨_, _, lx.str, ly.str, k _ G R H g .refl (.bl _)⟩
  · cases e
/-! ### raise of a class of the program without an __init__ of its own -/
def sRaise (c : String) : SS := fun τ h => .exc ⟨c, []⟩ τ h
abbrev veBm : List Value := [.type "ValueError", .type "Exception", .type "BaseException", .type "object"]
/-- what a raise of the class C asks -/
structure XcF (K : PySem.W.Frag) (C : Addr) : Prop where
  q : PySem.W.excIn K C veBm "ValueError.__new__" = true
  k : PySem.W.keepIn K (.ref C) = true
  b : PySem.W.subIn K (.ref C) (.type "BaseException") = some true
  t : PySem.W.typeIn K (.ref C) = some (.type "type")
section
variable {X : Cx} {E : WX} {en : Ent} {rk : Kd} {lin lin' : List Nat} {pos pos' p p2 : Pos} {m : Str} {j : Nat} {C : Addr}
theorem psb_raise {n : String} (hc : X.calm = true) (tk : Takes X E) (F : XcF X.K C) (gC : X.mg (Str.ofString n) = some (.ref C)) (hg : Gl X (Str.ofString n)) (hdb : ((Str.ofString n) == ("__debug__" : Str)) = false := by decide) :
    PSB X E en rk lin lin' (.Raise (some (.Call (.Name (Str.ofString n) p) [.Constant (.str m) j p2] [] pos')) none pos) (sRaise n) :=
  impS (ps_raise hc tk (pmk_own PySem.F.excBase_ValueError F.q gC F.k (raises_own F.b F.t) hg hdb)) fun D σ H ⟨G, R, τ, h, fs, o⟩ => by
    obtain ⟨G2, f2, s2⟩ := fs.frz
    exact o G2 R H σ (.ref C) none f2 ⟨C, gC, rfl, rfl⟩
end
/-! ### the suite of an except: φ tells where the exception lies -/
abbrev EF : WX := fun _ _ _ _ => False
def PEp (X : Cx) (φ : L2.St → Prop) (lin : List Nat) (kd : Kd) (e : Expr) (f : SE) : Prop := PE X e fun σ H Q => φ σ ∧ lE X.K X.mg EF lin kd f σ H Q
def PTp (X : Cx) (φ : L2.St → Prop) (lin : List Nat) (e : Expr) (f : SB) : Prop := PT X e fun σ H Q => φ σ ∧ lB X.K X.mg EF lin f σ H Q
def PWp (X : Cx) (φ : L2.St → Prop) (lin : List Nat) (e : Expr) (f : SB) : Prop := PW X e fun σ H Q => φ σ ∧ lB X.K X.mg EF lin f σ H Q
def onφ (φ : L2.St → Prop) (D : Ends) : Ends := { D with nx := fun σ' H' => φ σ' → D.nx σ' H' }
def lSp (K : PySem.W.Frag) (mg : Str → Option Value) (φ : L2.St → Prop) (en : Ent) (rk : Kd) (lin lin' : List Nat) (f : SS) : TS := fun D σ H => φ σ ∧ lS K mg EF en rk lin lin' f (onφ φ D) σ H
def PSp (X : Cx) (φ : L2.St → Prop) (en : Ent) (rk : Kd) (lin lin' : List Nat) (st : Stmt) (f : SS) : Prop := PS X st (lSp X.K X.mg φ en rk lin lin' f)
def PSsp (X : Cx) (φ : L2.St → Prop) (en : Ent) (rk : Kd) (lin lin' : List Nat) (st : List Stmt) (f : SS) : Prop := PSs X st (lSp X.K X.mg φ en rk lin lin' f)
section
variable {X : Cx} {φ : L2.St → Prop} {en : Ent} {rk kd k1 k2 : Kd} {lin lin1 lin' : List Nat} {e a b c : Expr} {rest : List Expr} {fa fb fc : SE} {sa sb sc : SB} {pos pos' : Pos} {st : Stmt} {sts a' b' : List Stmt} {f g : SS}
theorem pep_of (h : PEB X EF lin kd e fa) : PEp X φ lin kd e fa := impE h fun σ H Q q => q.2
theorem ptp_of (h : PTB X EF lin e sa) : PTp X φ lin e sa := impT h fun σ H Q q => q.2
theorem pep_one {op} (h : PEp X φ lin kd a fa) : PEp X φ lin kd (.BoolOp op [a] pos) fa := pe_one h
theorem pep_and (ha : PEp X φ lin k1 a fa) (hb : PEp X φ lin .fz (.BoolOp .And (b :: rest) pos) fb) : PEp X φ lin .fz (.BoolOp .And (a :: b :: rest) pos) (eAnd fa fb) := impE (pe_and ha hb) fun σ H Q ⟨p, G, R, τ, h, N0, gd, fr, o⟩ => by
  refine ⟨p, lE_of gd fr o fun x h1 G1 R1 H1 g1 e1 f1 o1 => ⟨x, rfl, ?_⟩⟩
  cases x with
  | true => exact ⟨p, G1, R1, τ, h1, N0, g1, f1, o1⟩
  | false => exact o1 G1 R1 H1 g1 .refl _ (.bl false)
theorem pep_not (ha : PEp X φ lin k1 a fa) : PEp X φ lin .fz (.UnaryOp .Not a pos) (eNot fa) := impE (pe_not ha) fun σ H Q ⟨p, G, R, τ, h, N0, gd, fr, o⟩ => by
  refine ⟨p, lE_of gd fr o fun x h1 G1 R1 H1 g1 e1 f1 o1 => ⟨x, rfl, ?_⟩⟩
  exact o1 G1 R1 H1 g1 .refl _ (.bl _)
theorem ptp_val (ha : PEp X φ lin kd a fa) (he : ∀ whole, isTrue a X.env whole = (do let v ← whole; standAt a.pos; holding [v] (truthy v)) := by intro _; rfl) : PTp X φ lin a (sOf fa) :=
  impT (pt_val ha he) fun σ H Q ⟨p, h⟩ => ⟨p, lE_any σ H _ (lB_of σ H Q h)⟩
theorem pwp_and1 (ha : PTp X φ lin a sa) : PWp X φ lin (.BoolOp .And [a] pos) sa := pw_and1 ha
theorem pwp_or1 (ha : PTp X φ lin a sa) : PWp X φ lin (.BoolOp .Or [a] pos) sa := pw_or1 ha
theorem pwp_and (ha : PTp X φ lin a sa) (hb : PWp X φ lin (.BoolOp .And (b :: rest) pos) sb) : PWp X φ lin (.BoolOp .And (a :: b :: rest) pos) (sAnd sa sb) := impW (pw_and ha hb) fun σ H Q ⟨p, G, R, τ, h, N0, gd, fr, o⟩ => by
  refine ⟨p, lB.then gd fr o fun x h1 G1 R1 H1 g1 e1 f1 o1 => ?_⟩
  cases x with
  | true => exact ⟨p, G1, R1, τ, h1, N0, g1, f1, o1⟩
  | false => exact o1 G1 R1 H1 g1 .refl
theorem pwp_or (ha : PTp X φ lin a sa) (hb : PWp X φ lin (.BoolOp .Or (b :: rest) pos) sb) : PWp X φ lin (.BoolOp .Or (a :: b :: rest) pos) (sOr sa sb) := impW (pw_or ha hb) fun σ H Q ⟨p, G, R, τ, h, N0, gd, fr, o⟩ => by
  refine ⟨p, lB.then gd fr o fun x h1 G1 R1 H1 g1 e1 f1 o1 => ?_⟩
  cases x with
  | false => exact ⟨p, G1, R1, τ, h1, N0, g1, f1, o1⟩
  | true => exact o1 G1 R1 H1 g1 .refl
theorem pwp_t (h : PWp X φ lin a sa) : PTp X φ lin a sa := h.pt
theorem ptp_not (ha : PTp X φ lin a sa) : PTp X φ lin (.UnaryOp .Not a pos) (sNot sa) := impT (pt_not ha) fun σ H Q ⟨p, G, R, τ, h, N0, gd, fr, o⟩ => by
  refine ⟨p, lB.then gd fr o fun x h1 G1 R1 H1 g1 e1 f1 o1 => ?_⟩
  exact o1 G1 R1 H1 g1 .refl
theorem pep_if (hc : PTp X φ lin c sc) (ha : PEp X φ lin kd a fa) (hb : PEp X φ lin kd b fb) : PEp X φ lin kd (.IfExp c a b pos) (eIf sc fa fb) := impE (pe_ifExp hc ha hb) fun σ H Q ⟨p, G, R, τ, h, N0, gd, fr, o⟩ => by
  refine ⟨p, lB.then gd fr o fun x h1 G1 R1 H1 g1 e1 f1 o1 => ?_⟩
  have back : ∀ {f : SE}, Out X.K X.mg (fun c d H' => EF c d σ H') G1 R1 H1 (f τ h1) (fun t G' R' H' => ∀ v, Res X.K kd H t v G' R' H' → Q v H') → φ σ ∧ lE X.K X.mg EF lin kd f σ H1 Q := fun {f} o => by
    refine ⟨p, G1, R1, τ, h1, N0, g1, f1, ?_⟩
    cases q : f τ h1 with
    | ok t h' => rw [q] at o; exact fun G' R' H' g' e' v r => o G' R' H' g' e' v (Res.back g1 e1 r)
    | exc x h' => rw [q] at o; exact o
    | no => rw [q] at o; exact o
  cases x with
  | true => exact back o1
  | false => exact back o1
theorem psp_ret (ha : PEp X φ lin kd a fa) (hk : ∀ K H t v G R H', Res K kd H t v G R H' → Res K rk H t v G R H') : PSp X φ en rk lin lin' (.Return (some a) pos) (sRet fa) := impS (ps_ret ha) fun D σ H ⟨p, G, R, τ, h, fs, o⟩ => by
  refine ⟨p, lE.thenS fs o fun t v h1 G1 R1 H1 f1 e1 r1 o1 => ?_⟩
  obtain ⟨h0, g0⟩ := fs.gd0
  exact o1 G1 R1 H1 v f1.gd f1.ext (Res.back fs.gd fs.ext (hk _ _ _ _ _ _ _ r1))
theorem psp_if (hc : PTp X φ lin c sc) (ha : PSsp X φ en rk lin lin' a' f) (hb : PSsp X φ en rk lin lin' b' g) : PSp X φ en rk lin lin' (.If c a' b' pos) (sIf sc f g) := impS (ps_if hc ha hb) fun D σ H ⟨p, G, R, τ, h, fs, o⟩ => by
  refine ⟨p, lB.thenS fs o fun x h1 G1 R1 H1 f1 e1 o1 => ?_⟩
  cases x with
  | true => exact ⟨p, G1, R1, τ, h1, f1, o1⟩
  | false => exact ⟨p, G1, R1, τ, h1, f1, o1⟩
theorem psp_set {i : Nat} {x : Str} (hφ : ∀ σ v, φ σ → φ (σ.set i (some v))) (hl : lin.contains i = false) (hN : X.N.Nodup) (hi : X.N[i]? = some x) (hx : Loc X.env.scope x) (ha : PEp X φ lin .fz a fa) (hs : swapsWith a (some (.Name x pos')) pos.line X.env = pure false := by rfl) (hf : X.fn x = true ∨ X.env.scope.names.lookup x = some .local := by first | exact .inl rfl | exact .inr rfl | assumption) :
    PSp X φ en rk lin lin (.Assign [.Name x pos'] a pos) (sSet i fa) := impS (ps_set hN hi hx ha hs hf) fun D σ H ⟨p, G, R, τ, h, fs, o⟩ => by
  have nl : i ∉ lin := fun m => by rw [List.contains_iff_mem.mpr m] at hl; cases hl
  refine ⟨p, lE.thenS fs o fun t v h1 G1 R1 H1 f1 e1 r1 o1 => ?_⟩
  exact o1 G1 R1 H1 _ ⟨f1.gd, f1.ext, f1.fr.put nl r1, f1.gd0⟩ (fun _ _ e => e) (List.prefix_refl _) (hφ _ _ p)
theorem pssp_nil : PSsp X φ en rk lin lin [] sSkip := impSs pss_nil fun D σ H ⟨p, G, R, τ, h, fs, o⟩ => o G R H σ fs (fun _ _ e => e) (List.prefix_refl _) p
theorem pssp_cons (h1 : PSp X φ en rk lin lin1 st f) (h2 : PSsp X φ en rk lin1 lin' sts g) : PSsp X φ en rk lin lin' (st :: sts) (sSeq f g) := impSs (pss_cons h1 h2) fun D σ H ⟨p, G, R, τ, h, fs, o⟩ => by
  refine ⟨p, G, R, τ, h, fs, ?_⟩
  unfold sSeq at o
  cases e : f τ h with
  | nx τ' h' =>
    rw [e] at o
    exact fun G' R' H' σ' fs' s' p' q => ⟨q, G', R', τ', h', fs', OutS.on s' p' o⟩
  | rt t h' => rw [e] at o; exact o
  | exc x τ' h' => rw [e] at o; exact o
  | no => rw [e] at o; exact o
theorem pssp_one (h1 : PSp X φ en rk lin lin' st f) : PSsp X φ en rk lin lin' [st] f := pss_one h1
end
/-! ### isinstance of the exception -/
def tCs : List V → TA
  | [] => tNil
  | v :: vs => tCons (tC v) (tCs vs)
section
variable {X : Cx} {a D C : Addr} {oe : Obj} {pn : List (Addr × Obj)} {i j : Nat} {lin : List Nat} {n m : Str} {p p1 p2 pos : Pos} {es : List Expr} {vs : List V} {b : Bool} {us : List Value}
theorem pacs_nil : PA X [] (tCs []) := pa_nil
theorem pacs_cons (g : X.mg m = some (.ref C)) (hg : Gl X m) (h2 : PA X es (tCs vs)) (hd : (m == ("__debug__" : Str)) = false := by decide) (hs : starEach (.Name m p :: es) X.env = (false, eval (.Name m p) X.env) :: starEach es X.env := by rfl) : PA X (.Name m p :: es) (tCs (.ref C :: vs)) :=
  pa_cons (pe_glob hg g rfl hd) h2 hs
theorem tCs_go {σ : L2.St} {H : Hp} {Q : List V → Hp → Prop} : ∀ {vs : List V} {P : List V → Hp → Prop}, P vs H → (∀ ws H', P ws H' → Q ws H') → tCs vs σ H Q
  | [], P, h, k => k _ _ h
  | v :: vs, P, h, k => tCs_go (vs := vs) (P := fun ws H' => P (v :: ws) H') h fun ws H' q => k _ _ q
/-- classes' values -/
inductive ClsL : List V → List Value → Prop
  | nil : ClsL [] []
  | cons {C : Addr} {vs us} : ClsL vs us → ClsL (.ref C :: vs) (.ref C :: us)
theorem ClsL.all : ∀ {vs : List V} {us ws : List Value}, ClsL vs us → Vals vs ws → ws = us
  | _, _, _, .nil, .nil => rfl
  | _, _, _, .cons k, .cons r rr => by
    cases r
    rw [ClsL.all k rr]
theorem call_isET (C : ExcC X.K D) (hz : Zc (.ref D) none oe) (hf : ∃ vs, oe.data = .fields vs) : CallR (X.suite a ((a, oe) :: pn)) (.builtin "isinstance") (fun xs H Q => ∃ (tp : Addr) (cs : List V) (ws : List Value) (b : Bool), xs = [.ref a, .ref tp] ∧ H tp = some (.tup cs) ∧ ClsL cs ws ∧ PySem.W.kitAny X.K (.ref D) ws = some b ∧ Q (.bl b) H) := by
  intro pins s σ H xs us Q I r h
  obtain ⟨tp, cs, ws, b, rfl, hT, k, e, q⟩ := h
  cases r with
  | cons rx rr =>
    cases rr with
    | cons rt rr =>
      cases rr
      cases rx
      cases rt
      obtain ⟨hget, _⟩ := I.pin (a, oe) (List.mem_append.mpr (.inl List.mem_cons_self))
      obtain ⟨vs, hv⟩ := hf
      have J : PySem.W.InstAt s.heap a oe D none := by
        obtain ⟨oc, od, oda, osl⟩ := oe
        obtain ⟨h1, h2⟩ := hz
        dsimp only at h1 h2 hv
        subst h1 h2 hv
        exact ⟨hget, rfl, rfl, trivial⟩
      obtain ⟨_, its, rv, o, h1, h2, n, h3⟩ := (show ObjOk X.prog X.w H s.heap tp (.tup cs) from I.hok tp _ hT)
      have e3 := k.all rv
      subst e3
      obtain ⟨oc, od, dt, sl⟩ := o
      simp only at h2 h3
      subst h2 h3
      exact PySem.W.kia_tup (PySem.W.handS_kitx_exc C.hg C.hk C.hs C.hd C.ha C.hn C.ht C.hm) I.kIn J h1 e (fun z => nomatch z) fun tk => ⟨.bl b, H, I.kept (t' := tk) fun _ _ z => z, rfl, q⟩
theorem pep_isE {b : Bool} (T : ExcC X.K D) (hz : Zc (.ref D) none oe) (hf : ∃ vs, oe.data = .fields vs) (hg : Gl X "isinstance") (hm : X.mg "isinstance" = none) (hN : X.N[i]? = some n) (hv : Vis X.env.scope n) (hgm : Gl X m) (gm : X.mg m = some (.ref C)) (e : PySem.W.kitOne X.K (.ref D) (.ref C) = some b)
    (hd : (n == ("__debug__" : Str)) = false := by decide) (hcd : (n == ("__classdict__" : Str)) = false := by decide) (hdm : (m == ("__debug__" : Str)) = false := by decide)
    (hs : starEach [.Name n p1, .Name m p2] X.env = (false, eval (.Name n p1) X.env) :: starEach [.Name m p2] X.env := by rfl) (hs2 : starEach [.Name m p2] X.env = (false, eval (.Name m p2) X.env) :: starEach [] X.env := by rfl) (hpl : (backTo pos (starEach [.Name m p2] X.env)).any (·.1) = false := by rfl) :
    PEp (X.suite a ((a, oe) :: pn)) (fun σ => σ[i]? = some (some (.ref a))) lin .fz (.Call (.Name "isinstance" p) [.Name n p1, .Name m p2] [] pos) (eC (.bl b)) :=
  impE (pe_callB (call_isE T hz hf) hg hm PyProof.Rows.boot_isinstance (pa_cons (pe_var (X := X.suite a ((a, oe) :: pn)) hN hv hd hcd) (pa_cons (pe_glob (X := X.suite a ((a, oe) :: pn)) (v := .ref C) hgm gm rfl hdm) pa_nil hs2) hs) (by decide) (by decide) hs hpl) fun σ H Q ⟨hp, G, R, τ, h, N0, gd, fr, o⟩ =>
    ⟨.ref a, hp, .ref C, .ref C, b, rfl, fun u r => r, e, o G R H gd .refl _ (.bl b)⟩
theorem pep_isV {b : Bool} {t : String} (T : ExcC X.K D) (hz : Zc (.ref D) none oe) (hf : ∃ vs, oe.data = .fields vs) (hg : Gl X "isinstance") (hm : X.mg "isinstance" = none) (hN : X.N[i]? = some n) (hv : Vis X.env.scope n) (hgm : Gl X m) (gm : X.mg m = none) (hb : bootBuiltins m = some (.type t)) (e : PySem.W.kitOne X.K (.ref D) (.type t) = some b)
    (hd : (n == ("__debug__" : Str)) = false := by decide) (hcd : (n == ("__classdict__" : Str)) = false := by decide) (hnm : m ≠ "__name__" := by decide) (hdm : (m == ("__debug__" : Str)) = false := by decide)
    (hs : starEach [.Name n p1, .Name m p2] X.env = (false, eval (.Name n p1) X.env) :: starEach [.Name m p2] X.env := by rfl) (hs2 : starEach [.Name m p2] X.env = (false, eval (.Name m p2) X.env) :: starEach [] X.env := by rfl) (hpl : (backTo pos (starEach [.Name m p2] X.env)).any (·.1) = false := by rfl) :
    PEp (X.suite a ((a, oe) :: pn)) (fun σ => σ[i]? = some (some (.ref a))) lin .fz (.Call (.Name "isinstance" p) [.Name n p1, .Name m p2] [] pos) (eC (.bl b)) :=
  impE (pe_callB (call_isE T hz hf) hg hm PyProof.Rows.boot_isinstance (pa_cons (pe_var (X := X.suite a ((a, oe) :: pn)) hN hv hd hcd) (pa_cons (pe_bltn (X := X.suite a ((a, oe) :: pn)) (v := .ty t) hgm gm hb rfl hnm hdm) pa_nil hs2) hs) (by decide) (by decide) hs hpl) fun σ H Q ⟨hp, G, R, τ, h, N0, gd, fr, o⟩ =>
    ⟨.ref a, hp, .ty t, .type t, b, rfl, fun u r => r, e, o G R H gd .refl _ (.bl b)⟩
theorem pep_isT {b : Bool} {x1 : Nat} {p3 : Pos} (T : ExcC X.K D) (hz : Zc (.ref D) none oe) (hf : ∃ vs, oe.data = .fields vs) (hg : Gl X "isinstance") (hm : X.mg "isinstance" = none) (hN : X.N[i]? = some n) (hv : Vis X.env.scope n) (ht : PA (X.suite a ((a, oe) :: pn)) es (tCs vs)) (cl : ClsL vs us) (e : PySem.W.kitAny X.K (.ref D) us = some b) (hl : vs.length ≤ 1000)
    (hd : (n == ("__debug__" : Str)) = false := by decide) (hcd : (n == ("__classdict__" : Str)) = false := by decide)
    (hs : starEach [.Name n p1, .Tuple es x1 p3] X.env = (false, eval (.Name n p1) X.env) :: starEach [.Tuple es x1 p3] X.env := by rfl) (hs2 : starEach [.Tuple es x1 p3] X.env = (false, eval (.Tuple es x1 p3) X.env) :: starEach [] X.env := by rfl) (hpl : (backTo pos (starEach [.Tuple es x1 p3] X.env)).any (·.1) = false := by rfl) :
    PEp (X.suite a ((a, oe) :: pn)) (fun σ => σ[i]? = some (some (.ref a))) lin .fz (.Call (.Name "isinstance" p) [.Name n p1, .Tuple es x1 p3] [] pos) (eC (.bl b)) :=
  impE (pe_callB (call_isET T hz hf) hg hm PyProof.Rows.boot_isinstance (pa_cons (pe_var (X := X.suite a ((a, oe) :: pn)) hN hv hd hcd) (pa_cons (pe_tup ht) pa_nil hs2) hs) (by decide) (by decide) hs hpl) fun σ H Q ⟨hp, G, R, τ, h, N0, gd, fr, o⟩ => by
    refine ⟨.ref a, hp, tCs_go (P := fun ws H' => ws = vs ∧ H' = H) ⟨rfl, rfl⟩ ?_⟩
    rintro ws H' ⟨e1, e2⟩
    rw [e1, e2]
    have z : (1000 : Nat) ≤ sizeLine := by decide
    refine ⟨by omega, fun tp htp => ?_⟩
    obtain ⟨g2, e2⟩ := gd.newG (o := .tup vs) htp
    exact ⟨tp, vs, us, b, rfl, upd_same, cl, e, o _ _ _ g2 e2 _ (.bl b)⟩
end
/-! ### try: body except C as n: suite, where the body raises one class -/
def sTry1 (n : String) (i : Nat) (f su : SS) : SS := fun τ h =>
  match f τ h with
  | .exc x τ' h' => if x.name = n ∧ x.args.isEmpty = true ∧ i < τ'.length then
      match su (τ'.set i none) h' with
      | .rt t h2 => .rt t h2
      | _ => .no
    else .no
  | r => r
theorem fr_set0 {K : PySem.W.Frag} {G : Hp} {R : List Addr} {H : Hp} {τ : Ev} {σ : L2.St} {N0 : Addr → Prop} {i : Nat} {o : Option V} (f : Fr K [] G R H τ σ N0) : Fr K [] G R H (τ.set i none) (σ.set i o) N0 where
  slot := fun j t e n => by
    by_cases q : j = i
    · subst q
      by_cases hj : j < τ.length
      · rw [List.getElem?_set_self hj] at e; cases e
      · rw [List.getElem?_eq_none (by rw [List.length_set]; omega)] at e; cases e
    · rw [List.getElem?_set_ne (Ne.symm q)] at e
      obtain ⟨v, h1, h2⟩ := f.slot j t e n
      exact ⟨v, by rw [List.getElem?_set_ne (Ne.symm q)]; exact h1, h2⟩
  own := fun j t e m => by cases m
  apart := fun i j t u a _ _ m => by cases m
  len := by rw [List.length_set, List.length_set]; exact f.len
section
variable {X : Cx} {E : WX} {en : Ent} {rk : Kd} {n : String} {i : Nat} {c ev : Str} {Cc D : Addr} {body suite : List Stmt} {b₀ : Stmt} {np pos pos' : Pos} {f su : SS} {k : Nat}
theorem psb_try1 (hx : Hx X k E) (hN : X.N.Nodup) (hi : X.N[i]? = some ev) (hgl : Gl X c) (gc : X.mg c = some (.ref Cc)) (gn : X.mg (Str.ofString n) = some (.ref D)) (ex : PySem.W.exmOne X.K (.ref D) (.ref Cc) = some true)
    (hb : ∀ (W : WX) (pn : List (Addr × Obj)) (xe : Value → Shared → Prop), Hx (X.tr pn xe) k W → PSsB (X.tr pn xe) W en rk [] [] body f)
    (hsu : ∀ (a : Addr) (oe : Obj) (pn : List (Addr × Obj)), Zc (.ref D) none oe → (∃ vs, oe.data = .fields vs) → PSsp (X.suite a ((a, oe) :: pn)) (fun σ => σ[i]? = some (some (.ref a))) en rk [] [] (b₀ :: suite) su)
    (hs : X.stack = X.env :: X.outer := by rfl) (hf : X.env.frame = some X.env.locals := by rfl) (hln : X.env.kindOf ev = some .local := by rfl) (hdb : (c == ("__debug__" : Str)) = false := by decide) :
    PSB X E en rk [] [] (.Try body [.ExceptHandler (some (.Name c np)) (some ev) (b₀ :: suite) pos'] [] [] pos) (sTry1 n i f su) :=
  impS (ps_try_as (tb := fun W => lS X.K X.mg W en rk [] [] f) (ts := fun a cls d D' σ H => (cls = .ref D ∧ d = none) ∧ lSp X.K X.mg (fun σ => σ[i]? = some (some (.ref a))) en rk [] [] su D' σ H) (Wout := E) hs hf hN hi hln ⟨hgl, hdb, .inl gc⟩ hx.tk
    (fun W pn xe tk po => hb W pn xe ⟨hx.room, tk, po⟩)
    (fun a oe cls d pn hz hf => ⟨fun pins s σ H D' I ⟨⟨e1, e2⟩, q⟩ => by
      subst e1 e2
      exact (hsu a oe pn hz hf).run pins s σ H D' I q⟩)) fun D' σ H ⟨G, R, τ, h, fs, o⟩ => by
    refine ⟨G, R, τ, h, fs, ?_⟩
    unfold sTry1 at o
    cases e : f τ h with
    | nx τ' h' => rw [e] at o; exact o
    | rt t h' => rw [e] at o; exact o
    | no => rw [e] at o; exact o
    | exc x τ' h' =>
      rw [e] at o
      intro G' R' H' σ' cc d f2 xr
      have o : OutS X.K X.mg E en rk [] G R (if x.name = n ∧ x.args.isEmpty = true ∧ i < τ'.length then
        match su (τ'.set i none) h' with
        | .rt t h2 => .rt t h2
        | _ => .no
      else .no) D' := o
      split at o
      · rename_i hn
        obtain ⟨C, h1, h2, h3⟩ := xr
        rw [hn.1, gn] at h1
        cases h1
        have ea : x.args = [] := List.isEmpty_iff.mp hn.2.1
        rw [ea] at h3
        have h3 : d = none := h3
        subst h2 h3
        refine ⟨true, ex, fun _ a ha => ⟨⟨rfl, rfl⟩, ?_, G', R', τ'.set i none, h', ⟨f2.gd, f2.ext, fr_set0 f2.fr, f2.gd0⟩, ?_⟩, fun q => by cases q⟩
        · have hi' : i < σ'.length := by
            have l1 := f2.fr.len
            have l2 := hn.2.2
            omega
          exact List.getElem?_set_self hi'
        · cases e2 : su (τ'.set i none) h' with
          | nx τ2 h2 => rw [e2] at o; exact o.elim
          | rt t h2 => rw [e2] at o; exact o
          | exc x τ' h' => rw [e2] at o; exact o.elim
          | no => rw [e2] at o; exact o.elim
      · exact o.elim
end
/-! ### facts of classes -/
section
variable {K : PySem.W.Frag} {C D : Addr} {b : Bool} {c : Value} {r : List Value}
theorem kit_refL (hd : PySem.W.hasDictIn K C = true) (ht : PySem.W.typeIn K (.ref C) = some (.type "type")) (h : PySem.W.subIn K (.ref D) (.ref C) = some b) (hD : PySem.W.subIn K (.ref D) (.ref D) = some true) : PySem.W.kitOne K (.ref D) (.ref C) = some b := by
  obtain ⟨cd, hc, _⟩ := PySem.W.any_some hd
  unfold PySem.W.kitOne
  split
  · rename_i e
    have e : D = C := Value.ref.inj (beq_iff_eq.mp e)
    subst e
    rw [hD] at h
    exact h
  · show (if ((PySem.W.clsIn K C).isSome && PySem.W.typeIn K (.ref C) == some (.type "type")) = true then PySem.W.subIn K (.ref D) (.ref C) else none) = some b
    rw [if_pos (by rw [hc, ht]; rfl)]
    exact h
theorem kit_typL {T : String} (hm : PySem.W.kitMeta T = true) (h : PySem.W.subIn K (.ref D) (.type T) = some b) : PySem.W.kitOne K (.ref D) (.type T) = some b := by
  unfold PySem.W.kitOne
  rw [if_neg (by intro z; cases beq_iff_eq.mp z)]
  show (if PySem.W.kitMeta T = true then PySem.W.subIn K (.ref D) (.type T) else none) = some b
  rw [if_pos hm]
  exact h
theorem kita_nil : PySem.W.kitAny K (.ref D) [] = some false := rfl
theorem kita_f (h : PySem.W.kitOne K (.ref D) c = some false) (h2 : PySem.W.kitAny K (.ref D) r = some b) : PySem.W.kitAny K (.ref D) (c :: r) = some b := by
  unfold PySem.W.kitAny
  rw [h]
  exact h2
theorem kita_t (h : PySem.W.kitOne K (.ref D) c = some true) : PySem.W.kitAny K (.ref D) (c :: r) = some true := by
  unfold PySem.W.kitAny
  rw [h]
end
theorem try1_rt {n : String} {i : Nat} {f su : SS} {τ τ' : Ev} {h h' h2 : IH} {t : T} (e : f τ h = .exc ⟨n, []⟩ τ' h') (hi : i < τ'.length) (e2 : su (τ'.set i none) h' = .rt t h2) : sTry1 n i f su τ h = .rt t h2 := by
  unfold sTry1
  rw [e]
  dsimp only
  rw [if_pos ⟨rfl, rfl, hi⟩, e2]
theorem try1_ok {n : String} {i : Nat} {f su : SS} {τ : Ev} {h h2 : IH} {t : T} (e : f τ h = .rt t h2) : sTry1 n i f su τ h = .rt t h2 := by
  unfold sTry1
  rw [e]
end GB
namespace GB
open PySem PySem.Spec PyProof.Rows L2
/-! ### f'..' -/
def gFmt : G1
  | .str y, _ => if y.length ≤ sizeLine then some (.str y) else none
  | .int i, _ => if i.natAbs.log2 < 1920 then some (.str (toString i)) else none
  | _, _ => none
def jsGo : List SE → Str → Ev → IH → Rs T
  | [], acc, _, h => .ok (.str acc) h
  | f :: fs, acc, τ, h => (f τ h).bind fun x h1 =>
    match x with
    | .str y => if (acc ++ y).length ≤ sizeLine then jsGo fs (acc ++ y) τ h1 else .no
    | _ => .no
def eJs (fs : List SE) : SE := fun τ h => jsGo fs Str.empty τ h
section
variable {X : Cx} {E : WX} {lin : List Nat} {kd : Kd} {e : Expr} {fa : SE} {pos : Pos}
theorem pb_fmt (ha : PEB X E lin kd e fa) : PEB X E lin .fz (.FormattedValue e (-1) none pos) (eUn gFmt fa) := impE (pe_fmt ha) fun σ H Q ⟨G, R, τ, h, N0, gd, fr, o⟩ => by
  refine lE.then gd fr o fun x vx h1 G1 R1 H1 g1 e1 f1 r1 o1 => ?_
  have l1 := Res.live r1
  cases x with
  | str y =>
    have o1 : Out X.K X.mg (fun c d H' => E c d σ H') G1 R1 H1 (Rs.of (if y.length ≤ sizeLine then some (T.str y) else none) h1) _ := o1
    split at o1
    · rename_i hz
      exact .inl ⟨y, l1.str, hz, o1 G1 R1 H1 g1 .refl _ (.str y)⟩
    · exact o1.elim
  | int i =>
    have o1 : Out X.K X.mg (fun c d H' => E c d σ H') G1 R1 H1 (Rs.of (if i.natAbs.log2 < 1920 then some (T.str (toString i)) else none) h1) _ := o1
    split at o1
    · rename_i hz
      exact .inr ⟨i, l1.int, hz, o1 G1 R1 H1 g1 .refl _ (.str _)⟩
    · exact o1.elim
  | _ => exact False.elim o1
/-- the parts -/
inductive PJB (X : Cx) (E : WX) (lin : List Nat) : List Expr → List SE → Prop where
  | nil : PJB X E lin [] []
  | cons {e : Expr} {f : SE} {es : List Expr} {fs : List SE} (h : PEB X E lin .fz e f) (r : PJB X E lin es fs) : PJB X E lin (e :: es) (f :: fs)
theorem PJB.pj {es : List Expr} {fs : List SE} (h : PJB X E lin es fs) : PJ X es (fs.map fun f => lE X.K X.mg E lin .fz f) := by
  induction h with
  | nil => exact .nil
  | cons h _ ih => exact .cons h ih
theorem js_go : ∀ {fs : List SE} {acc : Str} {σ : L2.St} {G : Hp} {R : List Addr} {H : Hp} {h : IH} {τ : Ev} {N0 : Addr → Prop} {Q : VK}, Gd X.K G R H h → Fr X.K lin G R H τ σ N0 →
    Out X.K X.mg (fun c d H' => E c d σ H') G R H (jsGo fs acc τ h) (fun t G' R' H' => ∀ v, Rp X.K G' R' t v → Q v H') → tJs (fs.map fun f => lE X.K X.mg E lin .fz f) acc σ H fun out H1 => Q (.str out) H1
  | [], acc, σ, G, R, H, h, τ, N0, Q, g, fr, o => o G R H g .refl _ (.str acc)
  | f :: fs, acc, σ, G, R, H, h, τ, N0, Q, g, fr, o => by
    refine lE.then (kd := .fz) g fr (show Out X.K X.mg _ G R H ((f τ h).bind _) _ from o) fun x v h1 G1 R1 H1 g1 e1 f1 r1 o1 => ?_
    cases x with
    | str y =>
      have o1 : Out X.K X.mg (fun c d H' => E c d σ H') G1 R1 H1 (if (acc ++ y).length ≤ sizeLine then jsGo fs (acc ++ y) τ h1 else .no) (fun t G' R' H' => ∀ v, Rp X.K G' R' t v → Q v H') := o1
      split at o1
      · rename_i hz
        exact ⟨y, by cases r1; rfl, hz, js_go g1 f1 o1⟩
      · exact o1.elim
    | _ => exact False.elim o1
theorem pb_js {v1 v2 : Expr} {rest : List Expr} {fs : List SE} (h : PJB X E lin (v1 :: v2 :: rest) fs) : PEB X E lin .fz (.JoinedStr (v1 :: v2 :: rest) pos) (eJs fs) :=
  impE (pe_joined h.pj) fun σ H Q ⟨G, R, τ, h, N0, gd, fr, o⟩ => js_go (Q := Q) gd fr o
theorem w_jsN {τ : Ev} {h : IH} {acc : Str} {P1 : T → IH → Prop} : Ok (jsGo [] acc τ h) P1 = P1 (.str acc) h := by
  show Ok (.ok (.str acc) h) P1 = _
  rw [w_ok]
theorem w_jsC {f : SE} {fs : List SE} {τ : Ev} {h : IH} {acc : Str} {P1 : T → IH → Prop} : Ok (jsGo (f :: fs) acc τ h) P1 = Ok (f τ h) fun x h1 => ∃ y, x = .str y ∧ (acc ++ y).length ≤ sizeLine ∧ Ok (jsGo fs (acc ++ y) τ h1) P1 := by
  show Ok ((f τ h).bind fun x h1 => (match x with
    | .str y => if (acc ++ y).length ≤ sizeLine then jsGo fs (acc ++ y) τ h1 else .no
    | _ => .no)) P1 = _
  rw [w_bind]
  congr 1; funext x h1
  cases x with
  | str y =>
    dsimp only
    by_cases z : (acc ++ y).length ≤ sizeLine
    · rw [if_pos z]
      exact propext ⟨fun q => ⟨y, rfl, z, q⟩, fun ⟨_, e, _, q⟩ => by cases e; exact q⟩
    · rw [if_neg z]
      exact propext ⟨fun q => q.out.elim, fun ⟨_, e, z', _⟩ => by cases e; exact absurd z' z⟩
  | _ => exact propext ⟨fun q => q.out.elim, fun ⟨_, e, _⟩ => nomatch e⟩
theorem w_eJs {fs : List SE} {τ : Ev} {h : IH} {P1 : T → IH → Prop} : Ok (eJs fs τ h) P1 = Ok (jsGo fs Str.empty τ h) P1 := rfl
end
end GB
namespace GB
open PySem PySem.Spec PyProof.Rows L2
/-! ### texts -/
def dg (i : Int) : Str := Str.ofString (toString i)
theorem dg_len {i : Int} (h : i.natAbs < 10 ^ 40) : (dg i).length ≤ 41 := by
  unfold dg
  rw [PySem.ofString_length, Int.toString_eq_repr, Int.repr_eq_if]
  split
  · have : i.toNat < 10 ^ 40 := by omega
    have := (Nat.length_repr_le_iff (k := 40) (by decide)).mpr this
    omega
  · have : (-i).toNat < 10 ^ 40 := by omega
    have := (Nat.length_repr_le_iff (k := 40) (by decide)).mpr this
    rw [String.length_append]
    have e : "-".length = 1 := rfl
    omega
theorem dg_ok {i : Int} : PyData.strOk (dg i) = true := by
  unfold dg PyData.strOk
  rw [Str.ofString_eq_toList]
  simp only [List.all_toArray, List.all_eq_true, List.mem_map, decide_eq_true_eq]
  rintro n ⟨c, hc, rfl⟩
  have := int_ascii i c hc
  omega
theorem ok_app {a b : Str} (ha : PyData.strOk a = true) (hb : PyData.strOk b = true) : PyData.strOk (a ++ b) = true := by
  unfold PyData.strOk at *
  show (a.cps ++ b.cps).all _ = true
  rw [Array.all_append, ha, hb]; rfl
theorem ok_joinS {s : Str} (hs : PyData.strOk s = true) : ∀ {zs : List Str}, (∀ z ∈ zs, PyData.strOk z = true) → PyData.strOk (Str.join s zs) = true
  | [], _ => by
    show PyData.strOk Str.empty = true
    decide +kernel
  | [z], h => h z (by simp)
  | x :: y :: r, h => by
    show PyData.strOk (x ++ s ++ Str.join s (y :: r)) = true
    exact ok_app (ok_app (h x (by simp)) hs) (ok_joinS hs fun z m => h z (List.mem_cons_of_mem _ m))
theorem ok_join {s : Str} {zs : List Str} (hs : PyData.strOk s = true) (h : ∀ z ∈ zs, PyData.strOk z = true) : PyData.strOk (Txt.join s zs) = true := by
  show PyData.strOk (Builtin.Str.glued s zs) = true
  rw [StrLaws.glued_eq_join]
  exact ok_joinS hs h
theorem join_len {s : Str} {zs : List Str} : (Txt.join s zs).length ≤ (zs.map (·.length)).sum + zs.length * s.length := by
  show (Builtin.Str.glued s zs).length ≤ _
  rw [StrLaws.glued_eq_join]
  exact StrLaws.join_length_le s zs
theorem joinS_snoc {s b : Str} : ∀ {zs : List Str}, zs ≠ [] → Str.join s (zs ++ [b]) = Str.join s zs ++ s ++ b
  | [], h => absurd rfl h
  | [z], _ => rfl
  | x :: y :: r, _ => by
    show x ++ s ++ Str.join s ((y :: r) ++ [b]) = x ++ s ++ Str.join s (y :: r) ++ s ++ b
    rw [joinS_snoc (zs := y :: r) (by simp)]
    simp only [Str.append_assoc]
theorem join_cons {s a : Str} {zs : List Str} (h : zs ≠ []) : Txt.join s (a :: zs) = a ++ s ++ Txt.join s zs := by
  show Builtin.Str.glued s (a :: zs) = a ++ s ++ Builtin.Str.glued s zs
  rw [StrLaws.glued_eq_join, StrLaws.glued_eq_join]
  cases zs with
  | nil => exact absurd rfl h
  | cons z zs => rfl
theorem join_snoc {s b : Str} {zs : List Str} (h : zs ≠ []) : Txt.join s (zs ++ [b]) = Txt.join s zs ++ s ++ b := by
  show Builtin.Str.glued s (zs ++ [b]) = Builtin.Str.glued s zs ++ s ++ b
  rw [StrLaws.glued_eq_join, StrLaws.glued_eq_join]
  exact joinS_snoc h
theorem q_joinS {a : Str} {ts : List T} {zs : List Str} {h : IH} (e : strsL ts = some zs) (b : (zs.map (·.length)).sum + zs.length * a.length ≤ 16777216) : gJoin (.str a) (.lst ts) h = some (.str (Txt.join a zs)) := by
  show (strsL ts).bind (fun ys => if (ys.map (·.length)).sum + ys.length * a.length ≤ 16777216 then some (T.str (Txt.join a ys)) else none) = _
  rw [e]
  show (if (zs.map (·.length)).sum + zs.length * a.length ≤ 16777216 then some (T.str (Txt.join a zs)) else none) = _
  rw [if_pos b]
theorem strs_map {α : Type} {g : α → Str} : ∀ {l : List α}, strsL (l.map fun x => T.str (g x)) = some (l.map g)
  | [] => rfl
  | x :: l => by
    show (strsL (l.map fun x => T.str (g x))).map (g x :: ·) = _
    rw [strs_map]; rfl
theorem strs_app : ∀ {ts us : List T} {zs ws : List Str}, strsL ts = some zs → strsL us = some ws → strsL (ts ++ us) = some (zs ++ ws)
  | [], us, zs, ws, e1, e2 => by cases e1; exact e2
  | t :: ts, us, zs, ws, e1, e2 => by
    cases t with
    | str z =>
      obtain ⟨ys, e, rfl⟩ := Option.map_eq_some_iff.mp (show (strsL ts).map (z :: ·) = some zs from e1)
      show (strsL (ts ++ us)).map (z :: ·) = _
      rw [strs_app e e2]; rfl
    | _ => cases e1
theorem sum_le {n : Nat} : ∀ {zs : List Str}, (∀ z ∈ zs, z.length ≤ n) → (zs.map (·.length)).sum ≤ zs.length * n
  | [], _ => Nat.zero_le _
  | z :: zs, h => by
    have := sum_le (zs := zs) fun w m => h w (List.mem_cons_of_mem _ m)
    have := h z (by simp)
    simp only [List.map_cons, List.sum_cons, List.length_cons, Nat.succ_mul]
    omega
section
variable {h : IH} {i : Int} {a b : Str}
theorem q_strI (e : i.natAbs < 10 ^ 40) : gStr (.int i) h = some (.str (dg i)) := by
  show (if i.natAbs.log2 < 1920 then some (T.str (toString i)) else none) = _
  rw [if_pos]; rfl
  by_cases z : i.natAbs = 0
  · rw [z]; decide
  · have q : i.natAbs < 2 ^ 140 := Nat.lt_of_lt_of_le e (by decide)
    have := (Nat.log2_lt z).mpr q
    omega
theorem q_strS : gStr (.str a) h = some (.str a) := rfl
theorem q_fmtI (e : i.natAbs < 10 ^ 40) : gFmt (.int i) h = some (.str (dg i)) := q_strI (h := h) e
theorem q_fmtS (e : a.length ≤ sizeLine) : gFmt (.str a) h = some (.str a) := by
  show (if a.length ≤ sizeLine then some (T.str a) else none) = _
  rw [if_pos e]
theorem q_addS (e : a.length + b.length ≤ sizeLine) : gAdd (.str a) (.str b) h = some (.str (a ++ b)) := by
  show (if a.length + b.length ≤ sizeLine then some (T.str (a ++ b)) else none) = _
  rw [if_pos e]
end
/-- an item's text -/
def itS : Itm → Str
  | .line xs s => "line " ++ Txt.join " " (xs.map dg) ++ " " ++ dg s
  | .wait n => "wait" ++ " " ++ dg n
  | .tool b => "tool" ++ " " ++ (if b then "up" else "down")
  | .mark z => "mark" ++ " " ++ z
def MkOk : Itm → Prop
  | .mark z => PyData.strOk z = true ∧ z.length ≤ 8
  | .wait n => 0 ≤ n ∧ n ≤ 100000
  | _ => True
theorem bl_len {a b : Int} (h1 : -(10 ^ 39) ≤ a) (h2 : a ≤ 10 ^ 39) : a.natAbs < 10 ^ 40 := by omega
theorem dgs_len {xs : List Int} (h : ∀ x ∈ xs, x.natAbs < 10 ^ 40) : ((xs.map dg).map (·.length)).sum + (xs.map dg).length * (" " : Str).length ≤ xs.length * 42 := by
  have e : (" " : Str).length = 1 := by decide +kernel
  have := sum_le (n := 41) (zs := xs.map dg) fun z m => by
    obtain ⟨x, mx, rfl⟩ := List.mem_map.mp m
    exact dg_len (h x mx)
  rw [List.length_map] at *
  rw [e]
  omega
theorem itS_len {ax : Nat} {i : Itm} (ax3 : ax ≤ 3) (o : OkI ax i) (m : MkOk i) : (itS i).length ≤ 300 := by
  have l0 : (" " : Str).length = 1 := by decide +kernel
  have l1 : ("line " : Str).length = 5 := by decide +kernel
  have l2 : ("wait" : Str).length = 4 := by decide +kernel
  have l3 : ("tool" : Str).length = 4 := by decide +kernel
  have l4 : ("mark" : Str).length = 4 := by decide +kernel
  have l5 : ("up" : Str).length = 2 := by decide +kernel
  have l6 : ("down" : Str).length = 4 := by decide +kernel
  cases i with
  | line xs s =>
    have lo : LnOk ax xs s := o
    have a := dgs_len (xs := xs) fun x mx => by have := lo.bnd x mx; omega
    have b := join_len (s := " ") (zs := xs.map dg)
    have c := dg_len (i := s) (by have := lo.s1; have := lo.s2; omega)
    have d := lo.len
    show ("line " ++ Txt.join " " (xs.map dg) ++ " " ++ dg s : Str).length ≤ 300
    rw [Str.length_append, Str.length_append, Str.length_append]
    omega
  | wait n =>
    have c := dg_len (i := n) (by have := m.1; have := m.2; omega)
    show ("wait" ++ " " ++ dg n : Str).length ≤ 300
    rw [Str.length_append, Str.length_append]
    omega
  | tool b =>
    show ("tool" ++ " " ++ (if b then "up" else "down") : Str).length ≤ 300
    rw [Str.length_append, Str.length_append]
    cases b
    · show 4 + 1 + ("down" : Str).length ≤ 300; omega
    · show 4 + 1 + ("up" : Str).length ≤ 300; omega
  | mark z =>
    have := m.2
    show ("mark" ++ " " ++ z : Str).length ≤ 300
    rw [Str.length_append, Str.length_append]
    omega
theorem itS_ok {i : Itm} (m : MkOk i) : PyData.strOk (itS i) = true := by
  cases i with
  | line xs s => exact ok_app (ok_app (ok_app (by decide +kernel) (ok_join (by decide +kernel) fun z m => by obtain ⟨x, _, rfl⟩ := List.mem_map.mp m; exact dg_ok)) (by decide +kernel)) dg_ok
  | wait n => exact ok_app (ok_app (by decide +kernel) (by decide +kernel)) dg_ok
  | tool b => exact ok_app (ok_app (by decide +kernel) (by decide +kernel)) (by cases b <;> decide +kernel)
  | mark z => exact ok_app (ok_app (by decide +kernel) (by decide +kernel)) m.1
theorem itS_line {xs : List Int} {s : Int} (h : xs ≠ []) : Txt.join " " (([("line" : Str)] ++ xs.map dg) ++ [dg s]) = itS (.line xs s) := by
  have n : xs.map dg ≠ [] := by simpa using h
  have e : ("line" : Str) ++ (" " : Str) = ("line " : Str) := by decide +kernel
  rw [join_snoc (by simp), List.singleton_append, join_cons n, e]
  rfl
/-- a fraction's text, a step's -/
def frS (a b : Int) : Str := if b = 1 then dg a else dg a ++ "/" ++ dg b
def stS (row : List Int) (k a b : Int) : Str := "step " ++ Txt.join " " (row.map dg) ++ " " ++ dg k ++ " " ++ frS a b
theorem frS_len {a b : Int} (ha : a.natAbs < 10 ^ 40) (hb : b.natAbs < 10 ^ 40) : (frS a b).length ≤ 100 := by
  have e : ("/" : Str).length = 1 := by decide +kernel
  have h1 := dg_len ha
  have h2 := dg_len hb
  unfold frS
  split
  · omega
  · rw [Str.length_append, Str.length_append]; omega
theorem frS_ok {a b : Int} : PyData.strOk (frS a b) = true := by
  unfold frS
  split
  · exact dg_ok
  · exact ok_app (ok_app dg_ok (by decide +kernel)) dg_ok
theorem stS_ok {row : List Int} {k a b : Int} : PyData.strOk (stS row k a b) = true :=
  ok_app (ok_app (ok_app (ok_app (ok_app (by decide +kernel) (ok_join (by decide +kernel) fun z m => by obtain ⟨x, _, rfl⟩ := List.mem_map.mp m; exact dg_ok)) (by decide +kernel)) dg_ok) (by decide +kernel)) frS_ok
theorem stS_join {row : List Int} {k a b : Int} (h : row ≠ []) : Txt.join " " ([("step" : Str)] ++ (row.map dg ++ [dg k, frS a b])) = stS row k a b := by
  have n : row.map dg ≠ [] := by simpa using h
  have e : ("step" : Str) ++ (" " : Str) = ("step " : Str) := by decide +kernel
  have s : [("step" : Str)] ++ (row.map dg ++ [dg k, frS a b]) = (([("step" : Str)] ++ row.map dg) ++ [dg k]) ++ [frS a b] := by simp
  rw [s, join_snoc (by simp), join_snoc (by simp), List.singleton_append, join_cons n, e]
  rfl
theorem int_maps_inj : ∀ {xs ys : List Int}, xs.map T.int = ys.map T.int → xs = ys
  | [], [], _ => rfl
  | [], _ :: _, e => by cases e
  | _ :: _, [], e => by cases e
  | x :: xs, y :: ys, e => by
    simp only [List.map_cons, List.cons.injEq, T.int.injEq] at e
    rw [e.1, int_maps_inj e.2]
theorem itT_inj {i j : Itm} (e : itT i = itT j) : i = j := by
  have k : ∀ {a b : Str}, (T.str a = T.str b) → a ≠ b → False := fun e n => by cases e; exact n rfl
  cases i <;> cases j <;> simp only [itT, lineT, T.tup.injEq, List.cons.injEq, T.str.injEq, T.int.injEq, and_true, true_and, List.cons_ne_nil, and_false, List.nil_eq, reduceCtorEq] at e
  all_goals first
    | (obtain ⟨e1, e2⟩ := e; rw [int_maps_inj e1, e2])
    | (rw [e])
    | (exact absurd e.1 (by decide +kernel))
    | (rename_i a b; cases a <;> cases b <;> first | rfl | exact absurd e (by decide +kernel))
end GB
namespace Lw
open PySem PySem.Spec PyProof.Rows L2 GB
noncomputable def f__law_bag_b1 : SS := (sSet 3 (eBin gMod (eBin gPow (eBin gAdd (eBin gAdd (eBin gMul (eV 3) (eC (.int 48271))) (eBin gMod (eBin gIx (eV 0) (eV 4)) (eC (.int 2147483647)))) (eBin gMul (eV 4) (eV 4))) (eC (.int 5))) (eC (.int 2147483629))))
noncomputable def f__law_bag : SF := runF 2 5 (sSeq (sSet 2 (eC (.int 0))) (sSeq (sIf (sOf (eBin gLt (eV 1) (eUn gLen (eV 0)))) (sSet 2 (eUn gAbs (eBin gIx (eV 0) (eV 1)))) sSkip) (sSeq (sSet 3 (eBin gAdd (eBin gAdd (eBin gMul (eBin gMul (eC (.int 7919)) (eV 1)) (eV 1)) (eBin gMul (eC (.int 104729)) (eV 1))) (eC (.int 17)))) (sSeq (sFor (iR1 (eBin gMin2 (eUn gLen (eV 0)) (eC (.int 60)))) (.nm 4) f__law_bag_b1) (sSeq (sIf (sOf (eBin gLt (eV 2) (eBin gPow (eC (.int 10)) (eC (.int 18))))) (sSet 2 (eC (.int 0))) sSkip) (sRet (eBox (aCons (eV 2) (aCons (eV 3) aNil)))))))))
noncomputable def f__law_take_b1 : SS := (sSeq (sPutB (eV 0) (eC (.int 1)) (eBin gMod (eBin gPow (eBin gAdd (eBin gMul (eBin gIx (eV 0) (eC (.int 1))) (eC (.int 48271))) (eC (.int 7919))) (eC (.int 3))) (eC (.int 2147483629)))) (sSeq (sSet 2 (eBin gAdd (eBin gMul (eV 2) (eC (.int 1073741789))) (eBin gMod (eBin gMul (eBin gDiv (eBin gIx (eV 0) (eC (.int 1))) (eC (.int 8))) (eC (.int 69621))) (eC (.int 1073741789))))) (sSet 3 (eBin gMul (eV 3) (eC (.int 1073741789))))))
noncomputable def f__law_take : SF := runF 2 5 (sSeq (sIf (sOf (eBin gGt (eBin gIx (eV 0) (eC (.int 0))) (eC (.int 0)))) (sSeq (sSet 4 (eBin gMod (eBin gIx (eV 0) (eC (.int 0))) (eV 1))) (sSeq (sPutB (eV 0) (eC (.int 0)) (eBin gDiv (eBin gIx (eV 0) (eC (.int 0))) (eV 1))) (sRet (eV 4)))) sSkip) (sSeq (sSet 2 (eC (.int 0))) (sSeq (sSet 3 (eC (.int 1))) (sSeq (sWh (sOf (eBin gLt (eV 3) (eV 1))) f__law_take_b1) (sRet (eBin gMod (eV 2) (eV 1)))))))
noncomputable def f__law_name_e1 : SE := (eBin gIx (eC (.str "abcdefghijklmnopqrstuvwxyz")) (eCall f__law_take (aCons (eV 0) (aCons (eC (.int 26)) aNil))))
noncomputable def f__law_name : SF := runF 1 2 (sRet (eJoin (eC (.str "")) (eLc (iR1 (eBin gAdd (eC (.int 1)) (eCall f__law_take (aCons (eV 0) (aCons (eC (.int 8)) aNil))))) [1] (.nm 1) sTrue f__law_name_e1)))
noncomputable def f__law_item_e1 : SE := (eBin gSub (eCall f__law_take (aCons (eV 0) (aCons (eBin gAdd (eBin gMul (eC (.int 2)) (eV 4)) (eC (.int 1))) aNil))) (eV 4))
noncomputable def f__law_item_r1 : SS := (sSeq (sIf (sNot (sOf (eUn gAny (eV 5)))) (sPut 5 (eCall f__law_take (aCons (eV 0) (aCons (eV 1) aNil))) (eC (.int 1))) sSkip) (sRet (eTup (aCons (eC (.str "line")) (aCons (eUn gTuple (eV 5)) (aCons (eV 3) aNil))))))
noncomputable def f__law_item_r2 : SS := (sSeq (sSet 5 (eLc (iR1 (eV 1)) [6] (.nm 6) sTrue f__law_item_e1)) f__law_item_r1)
noncomputable def f__law_item_r3 : SS := (sSeq (sSet 4 (eBin gIx (eLst (aCons (eC (.int 3)) (aCons (eC (.int 20)) (aCons (eC (.int 100)) aNil)))) (eCall f__law_take (aCons (eV 0) (aCons (eC (.int 3)) aNil))))) f__law_item_r2)
noncomputable def f__law_item_r4 : SS := (sSeq (sSet 3 (eBin gAdd (eC (.int 1)) (eCall f__law_take (aCons (eV 0) (aCons (eC (.int 20)) aNil))))) f__law_item_r3)
noncomputable def f__law_item_r5 : SS := (sSeq (sIf (sOf (eBin gEq (eV 2) (eC (.int 2)))) (sRet (eTup (aCons (eC (.str "mark")) (aCons (eCall f__law_name (aCons (eV 0) aNil)) aNil)))) sSkip) f__law_item_r4)
noncomputable def f__law_item_r6 : SS := (sSeq (sIf (sOf (eBin gEq (eV 2) (eC (.int 1)))) (sRet (eTup (aCons (eC (.str "tool")) (aCons (eBin gIx (eLst (aCons (eC (.str "up")) (aCons (eC (.str "down")) aNil))) (eCall f__law_take (aCons (eV 0) (aCons (eC (.int 2)) aNil)))) aNil)))) sSkip) f__law_item_r5)
noncomputable def f__law_item_r7 : SS := (sSeq (sIf (sOf (eBin gEq (eV 2) (eC (.int 0)))) (sRet (eTup (aCons (eC (.str "wait")) (aCons (eBin gAdd (eC (.int 1)) (eCall f__law_take (aCons (eV 0) (aCons (eC (.int 1000)) aNil)))) aNil)))) sSkip) f__law_item_r6)
noncomputable def f__law_item : SF := runF 2 7 (sSeq (sSet 2 (eCall f__law_take (aCons (eV 0) (aCons (eC (.int 6)) aNil)))) f__law_item_r7)
noncomputable def f__law_divisor_b1 : SS := (sPar [0, 1] (aCons (eV 1) (aCons (eBin gMod (eV 0) (eV 1)) aNil)))
noncomputable def f__law_divisor : SF := runF 2 2 (sSeq (sWh (sOf (eBin gNe (eV 1) (eC (.int 0)))) f__law_divisor_b1) (sRet (eUn gAbs (eV 0))))
noncomputable def f__law_lowest : SF := runF 2 3 (sSeq (sSet 2 (eCall f__law_divisor (aCons (eV 0) (aCons (eV 1) aNil)))) (sSeq (sIf (sOf (eBin gLt (eV 1) (eC (.int 0)))) (sSet 2 (eUn gNeg (eV 2))) sSkip) (sRet (eTup (aCons (eBin gDiv (eV 0) (eV 2)) (aCons (eBin gDiv (eV 1) (eV 2)) aNil))))))
noncomputable def f__law_number : SF := runF 1 2 (sSeq (sSet 1 (eCall f__law_take (aCons (eV 0) (aCons (eC (.int 4)) aNil)))) (sSeq (sIf (sOf (eBin gLt (eV 1) (eC (.int 2)))) (sRet (eCall f__law_take (aCons (eV 0) (aCons (eBin gIx (eLst (aCons (eC (.int 7)) (aCons (eC (.int 100)) aNil))) (eV 1)) aNil)))) sSkip) (sSeq (sIf (sOf (eBin gEq (eV 1) (eC (.int 2)))) (sRet (eCall f__law_take (aCons (eV 0) (aCons (eBin gPow (eC (.int 10)) (eC (.int 30))) aNil)))) sSkip) (sRet (eBin gAdd (eBin gSub (eBin gShl (eC (.int 1)) (eCall f__law_take (aCons (eV 0) (aCons (eC (.int 99)) aNil)))) (eC (.int 1))) (eCall f__law_take (aCons (eV 0) (aCons (eC (.int 3)) aNil))))))))
noncomputable def f__law_fraction : SF := runF 1 2 (sSeq (sSet 1 (eBin gSub (eC (.int 1)) (eBin gMul (eC (.int 2)) (eCall f__law_take (aCons (eV 0) (aCons (eC (.int 2)) aNil)))))) (sRet (eCall f__law_lowest (aCons (eBin gMul (eV 1) (eCall f__law_number (aCons (eV 0) aNil))) (aCons (eBin gAdd (eC (.int 1)) (eBin gMod (eCall f__law_number (aCons (eV 0) aNil)) (eBin gSub (eBin gPow (eC (.int 10)) (eC (.int 30))) (eC (.int 1))))) aNil)))))
noncomputable def f__law_entry_e1 : SE := (eBin gSub (eCall f__law_take (aCons (eV 0) (aCons (eC (.int 3)) aNil))) (eC (.int 1)))
noncomputable def f__law_entry_r1 : SS := (sSeq (sSet 5 (eCall f__law_fraction (aCons (eV 0) aNil))) (sRet (eTup (aCons (eC (.str "step")) (aCons (eV 4) (aCons (eBin gAdd (eC (.int 1)) (eCall f__law_take (aCons (eV 0) (aCons (eC (.int 1000)) aNil)))) (aCons (eTup (aCons (eBin gMax2 (eC (.int 1)) (eUn gAbs (eBin gIx (eV 5) (eC (.int 0))))) (aCons (eIf (sOf (eBin gNe (eBin gIx (eV 5) (eC (.int 0))) (eC (.int 0)))) (eBin gIx (eV 5) (eC (.int 1))) (eC (.int 1))) aNil))) aNil)))))))
noncomputable def f__law_entry_r2 : SS := (sSeq (sSet 4 (eUn gTuple (eLc (iR1 (eV 1)) [6] (.nm 6) sTrue f__law_entry_e1))) f__law_entry_r1)
noncomputable def f__law_entry_r3 : SS := (sSeq (sIf (sAnd (sOf (eBin gEq (eV 2) (eC (.int 0)))) (sOf (eBin gNe (eBin gIx (eV 3) (eC (.int 0))) (eC (.str "line"))))) (sRet (eV 3)) sSkip) f__law_entry_r2)
noncomputable def f__law_entry_r4 : SS := (sSeq (sSet 3 (eCall f__law_item (aCons (eV 0) (aCons (eV 1) aNil)))) f__law_entry_r3)
noncomputable def f__law_entry : SF := runF 2 7 (sSeq (sSet 2 (eCall f__law_take (aCons (eV 0) (aCons (eC (.int 4)) aNil)))) f__law_entry_r4)
noncomputable def f__law_item_text_e1 : SE := (eUn gStr (eV 1))
noncomputable def f__law_item_text : SF := runF 1 2 (sSeq (sIf (sOf (eBin gEq (eBin gIx (eV 0) (eC (.int 0))) (eC (.str "line")))) (sRet (eBin gAdd (eBin gAdd (eBin gAdd (eC (.str "line ")) (eJoin (eC (.str " ")) (eLc (iMap (eBin gIx (eV 0) (eC (.int 1))) gT) [1] (.nm 1) sTrue f__law_item_text_e1))) (eC (.str " "))) (eUn gStr (eBin gIx (eV 0) (eC (.int 2)))))) sSkip) (sRet (eBin gAdd (eBin gAdd (eBin gIx (eV 0) (eC (.int 0))) (eC (.str " "))) (eUn gStr (eBin gIx (eV 0) (eC (.int 1)))))))
noncomputable def f__law_right : SF := runF 2 2 (sRet (eAnd (eUn (gIsi ["str"]) (eV 0)) (eBin gEq (eV 0) (eV 1))))
noncomputable def f_show_fraction : SF := runF 1 1 (sSeq (sIf (sOf (eBin gEq (eBin gIx (eV 0) (eC (.int 1))) (eC (.int 1)))) (sRet (eUn gStr (eBin gIx (eV 0) (eC (.int 0))))) sSkip) (sRet (eJs [(eUn gFmt (eBin gIx (eV 0) (eC (.int 0)))), (eC (.str "/")), (eUn gFmt (eBin gIx (eV 0) (eC (.int 1))))])))
noncomputable def f__law_fraction_text : SF := runF 1 1 (sRet (eIf (sOf (eBin gEq (eBin gIx (eV 0) (eC (.int 1))) (eC (.int 1)))) (eUn gStr (eBin gIx (eV 0) (eC (.int 0)))) (eBin gAdd (eBin gAdd (eUn gStr (eBin gIx (eV 0) (eC (.int 0)))) (eC (.str "/"))) (eUn gStr (eBin gIx (eV 0) (eC (.int 1)))))))
noncomputable def f_show_item_e1 : SE := (eUn gStr (eV 1))
noncomputable def f_show_item : SF := runF 1 2 (sSeq (sIf (sOf (eBin gEq (eBin gIx (eV 0) (eC (.int 0))) (eC (.str "line")))) (sRet (eJoin (eC (.str " ")) (eBin gCat (eBin gCat (eLst (aCons (eC (.str "line")) aNil)) (eLc (iMap (eBin gIx (eV 0) (eC (.int 1))) gT) [1] (.nm 1) sTrue f_show_item_e1)) (eLst (aCons (eUn gStr (eBin gIx (eV 0) (eC (.int 2)))) aNil))))) sSkip) (sRet (eJs [(eUn gFmt (eBin gIx (eV 0) (eC (.int 0)))), (eC (.str " ")), (eUn gFmt (eBin gIx (eV 0) (eC (.int 1))))])))
noncomputable def f_show_items_e1 : SE := (eCall f_show_item (aCons (eV 1) aNil))
noncomputable def f_show_items : SF := runF 1 2 (sRet (eJoin (eC (.str "\n")) (eLc (iMap (eV 0) gT) [1] (.nm 1) sTrue f_show_items_e1)))
noncomputable def f_show_entry_e1 : SE := (eUn gStr (eV 2))
noncomputable def f_show_entry_r1 : SS := (sSeq (sSet 1 (eBin gCat (eLc (iMap (eBin gIx (eV 0) (eC (.int 1))) gT) [2] (.nm 2) sTrue f_show_entry_e1) (eLst (aCons (eUn gStr (eBin gIx (eV 0) (eC (.int 2)))) (aCons (eCall f_show_fraction (aCons (eBin gIx (eV 0) (eC (.int 3))) aNil)) aNil))))) (sRet (eJoin (eC (.str " ")) (eBin gCat (eLst (aCons (eC (.str "step")) aNil)) (eV 1)))))
noncomputable def f_show_entry : SF := runF 1 3 (sSeq (sIf (sOf (eBin gNe (eBin gIx (eV 0) (eC (.int 0))) (eC (.str "step")))) (sRet (eCall f_show_item (aCons (eV 0) aNil))) sSkip) f_show_entry_r1)
noncomputable def f__law_entry_text_e1 : SE := (eUn gStr (eV 2))
noncomputable def f__law_entry_text_r1 : SS := (sSeq (sSet 1 (eJoin (eC (.str " ")) (eLc (iMap (eBin gIx (eV 0) (eC (.int 1))) gT) [2] (.nm 2) sTrue f__law_entry_text_e1))) (sRet (eBin gAdd (eBin gAdd (eBin gAdd (eBin gAdd (eBin gAdd (eC (.str "step ")) (eV 1)) (eC (.str " "))) (eUn gStr (eBin gIx (eV 0) (eC (.int 2))))) (eC (.str " "))) (eCall f__law_fraction_text (aCons (eBin gIx (eV 0) (eC (.int 3))) aNil)))))
noncomputable def f__law_entry_text : SF := runF 1 3 (sSeq (sIf (sOf (eBin gNe (eBin gIx (eV 0) (eC (.int 0))) (eC (.str "step")))) (sRet (eCall f__law_item_text (aCons (eV 0) aNil))) sSkip) f__law_entry_text_r1)
noncomputable def f_law_e1 : SE := (eCall f__law_item (aCons (eV 2) (aCons (eV 3) aNil)))
noncomputable def f_law_e2 : SE := (eCall f__law_item_text (aCons (eV 10) aNil))
noncomputable def f_law_r1 : SS := (sIf (sNot (sOf (eCall f__law_right (aCons (eCall f_show_fraction (aCons (eV 6) aNil)) (aCons (eCall f__law_fraction_text (aCons (eV 6) aNil)) aNil))))) (sRet (eC (.bl false))) sSkip)
noncomputable def f_law_b1 : SS := (sSeq (sIf (sOr (sNot (sOf (eCall f__law_right (aCons (eCall f_show_items (aCons (eV 4) aNil)) (aCons (eV 7) aNil))))) (sNot (sOf (eCall f__law_right (aCons (eCall f_show_entry (aCons (eV 5) aNil)) (aCons (eCall f__law_entry_text (aCons (eV 5) aNil)) aNil)))))) (sRet (eC (.bl false))) sSkip) f_law_r1)
noncomputable def f_law_r2 : SS := (sFor (iR1 (eC (.int 2))) (.nm 8) f_law_b1)
noncomputable def f_law_r3 : SS := (sSeq (sSet 7 (eJoin (eC (.str "\n")) (eLc (iMap (eV 4) gT) [10] (.nm 10) sTrue f_law_e2))) f_law_r2)
noncomputable def f_law_r4 : SS := (sSeq (sSet 6 (eCall f__law_fraction (aCons (eV 2) aNil))) f_law_r3)
noncomputable def f_law_r5 : SS := (sSeq (sSet 5 (eCall f__law_entry (aCons (eV 2) (aCons (eV 3) aNil)))) f_law_r4)
noncomputable def f_law_r6 : SS := (sSeq (sSet 4 (eUn gTuple (eLc (iR1 (eCall f__law_take (aCons (eV 2) (aCons (eC (.int 21)) aNil)))) [9] (.nm 9) sTrue f_law_e1))) f_law_r5)
noncomputable def f_law_r7 : SS := (sSeq (sSet 3 (eBin gAdd (eC (.int 2)) (eCall f__law_take (aCons (eV 2) (aCons (eC (.int 2)) aNil))))) f_law_r6)
noncomputable def f_law_b2 : SS := (sSeq (sSet 2 (eCall f__law_bag (aCons (eV 0) (aCons (eV 1) aNil)))) f_law_r7)
noncomputable def f_law : SF := runF 1 11 (sSeq (sFor (iR1 (eBin gMax2 (eC (.int 1)) (eBin gMin2 (eC (.int 8)) (eUn gLen (eV 0))))) (.nm 1) f_law_b2) (sRet (eC (.bl true))))
end Lw
namespace Lw
open PySem PySem.Spec PyProof.Rows L2 GB
def topS (i : Nat) : Stmt := PySem.Challenge.pw_glidequeue_k52_items_written.main.body.getD i (.Pass ⟨0, 0, 0, 0⟩)
theorem sc_f__law_bag : FnScope ["_law_script", "_law_at", "_law_cell", "_law_mix", "_law_k"] ["_law_script", "_law_at"] (defScope (topS 6)) := ⟨rfl, rfl, rfl, by decide +kernel, rfl, by decide +kernel, by decide +kernel⟩
theorem sc_f__law_take : FnScope ["_law_bag_here", "_law_many", "_law_number_here", "_law_room", "_law_digit"] ["_law_bag_here", "_law_many"] (defScope (topS 7)) := ⟨rfl, rfl, rfl, by decide +kernel, rfl, by decide +kernel, by decide +kernel⟩
theorem sc_f__law_name : FnScope ["_law_bag_here", "_law_k"] ["_law_bag_here"] (defScope (topS 12)) := ⟨rfl, rfl, rfl, by decide +kernel, rfl, by decide +kernel, by decide +kernel⟩
theorem sc_f__law_item : FnScope ["_law_bag_here", "_law_axes", "_law_sort", "_law_speed", "_law_most", "_law_steps", "_law_axis"] ["_law_bag_here", "_law_axes"] (defScope (topS 13)) := ⟨rfl, rfl, rfl, by decide +kernel, rfl, by decide +kernel, by decide +kernel⟩
theorem sc_f__law_divisor : FnScope ["_law_one", "_law_other"] ["_law_one", "_law_other"] (defScope (topS 8)) := ⟨rfl, rfl, rfl, by decide +kernel, rfl, by decide +kernel, by decide +kernel⟩
theorem sc_f__law_lowest : FnScope ["_law_p", "_law_q", "_law_common"] ["_law_p", "_law_q"] (defScope (topS 10)) := ⟨rfl, rfl, rfl, by decide +kernel, rfl, by decide +kernel, by decide +kernel⟩
theorem sc_f__law_number : FnScope ["_law_bag_here", "_law_how"] ["_law_bag_here"] (defScope (topS 9)) := ⟨rfl, rfl, rfl, by decide +kernel, rfl, by decide +kernel, by decide +kernel⟩
theorem sc_f__law_fraction : FnScope ["_law_bag_here", "_law_sign"] ["_law_bag_here"] (defScope (topS 11)) := ⟨rfl, rfl, rfl, by decide +kernel, rfl, by decide +kernel, by decide +kernel⟩
theorem sc_f__law_entry : FnScope ["_law_bag_here", "_law_axes", "_law_how", "_law_item_here", "_law_row", "_law_square", "_law_axis"] ["_law_bag_here", "_law_axes"] (defScope (topS 17)) := ⟨rfl, rfl, rfl, by decide +kernel, rfl, by decide +kernel, by decide +kernel⟩
theorem sc_f__law_item_text : FnScope ["_law_item_here", "_law_step"] ["_law_item_here"] (defScope (topS 14)) := ⟨rfl, rfl, rfl, by decide +kernel, rfl, by decide +kernel, by decide +kernel⟩
theorem sc_f__law_right : FnScope ["_law_told", "_law_due"] ["_law_told", "_law_due"] (defScope (topS 18)) := ⟨rfl, rfl, rfl, by decide +kernel, rfl, by decide +kernel, by decide +kernel⟩
theorem sc_f_show_fraction : FnScope ["one"] ["one"] (defScope (topS 1)) := ⟨rfl, rfl, rfl, by decide +kernel, rfl, by decide +kernel, by decide +kernel⟩
theorem sc_f__law_fraction_text : FnScope ["_law_one"] ["_law_one"] (defScope (topS 15)) := ⟨rfl, rfl, rfl, by decide +kernel, rfl, by decide +kernel, by decide +kernel⟩
theorem sc_f_show_item : FnScope ["item", "step"] ["item"] (defScope (topS 2)) := ⟨rfl, rfl, rfl, by decide +kernel, rfl, by decide +kernel, by decide +kernel⟩
theorem sc_f_show_items : FnScope ["items", "item"] ["items"] (defScope (topS 3)) := ⟨rfl, rfl, rfl, by decide +kernel, rfl, by decide +kernel, by decide +kernel⟩
theorem sc_f_show_entry : FnScope ["entry", "numbers", "step"] ["entry"] (defScope (topS 4)) := ⟨rfl, rfl, rfl, by decide +kernel, rfl, by decide +kernel, by decide +kernel⟩
theorem sc_f__law_entry_text : FnScope ["_law_entry_here", "_law_told", "_law_step"] ["_law_entry_here"] (defScope (topS 16)) := ⟨rfl, rfl, rfl, by decide +kernel, rfl, by decide +kernel, by decide +kernel⟩
theorem sc_f_law : FnScope ["_law_script", "_law_at", "_law_bag_here", "_law_axes", "_law_items", "_law_entry_here", "_law_one", "_law_due", "_law_again", "_law_k", "_law_item_here"] ["_law_script"] (defScope (topS 19)) := ⟨rfl, rfl, rfl, by decide +kernel, rfl, by decide +kernel, by decide +kernel⟩
/-- what of the top the walks ask -/
structure Tx (K : PySem.W.Frag) (mg : Str → Option Value) : Prop where
  z_abs : mg "abs" = none
  z_any : mg "any" = none
  z_isinstance : mg "isinstance" = none
  z_len : mg "len" = none
  z_max : mg "max" = none
  z_min : mg "min" = none
  z_range : mg "range" = none
  z_str : mg "str" = none
  z_tuple : mg "tuple" = none
section
variable {P : Program} {w : World} {K : PySem.W.Frag} {mg : Str → Option Value} {base : Heap}
theorem ok_f__law_bag (t : Tx K mg) (W : Here K mg "_law_bag" (topS 6) ["_law_script", "_law_at"])  : CalB P w K mg base 1 "_law_bag" .fz f__law_bag :=
  calB (lin' := []) W sc_f__law_bag fun f cdv A outer s H E en hx => by
  have nd := sc_f__law_bag.nd
  exact (pssb_cons (psb_set (i := 2) rfl nd rfl (by first | exact Or.inl rfl | exact Or.inr rfl) pb_int) (pssb_cons (psb_if (ptb_cmp op_lt o2_lt (nomark _) (pb_v 1 rfl) (pb_c1 call_len o1_len (by rfl) t.z_len PySem.boot_len (pb_v 0 rfl))) (pssb_one (psb_set (i := 2) rfl nd rfl (by first | exact Or.inl rfl | exact Or.inr rfl) (pb_c1 call_abs o1_abs (by rfl) t.z_abs PyProof.Rows.boot_abs (pb_ix ix_seq o2_ix (fun _ _ => rfl) (pb_v 0 rfl) (pb_v 1 rfl))))) pssb_nil) (pssb_cons (psb_set (i := 3) rfl nd rfl (by first | exact Or.inl rfl | exact Or.inr rfl) (pb_op op_addA o2_add (pb_op op_addA o2_add (pb_op op_mulX o2_mul (pb_op op_mulX o2_mul pb_int (pb_v 1 rfl)) (pb_v 1 rfl)) (pb_op op_mulX o2_mul pb_int (pb_v 1 rfl))) pb_int)) (pssb_cons (psb_for hx.po rfl (pib_r1 (by rfl) t.z_range (pb_c2 (call_min2 rfl) o2_min (by rfl) t.z_min PyProof.Rows.boot_min (pb_c1 call_len o1_len (by rfl) t.z_len PySem.boot_len (pb_v 0 rfl)) pb_int)) (gok_nm rfl) (pg_name (i := 4) nd rfl (by first | exact Or.inl rfl | exact Or.inr rfl)) (pssb_one (psb_set (i := 3) rfl nd rfl (by first | exact Or.inl rfl | exact Or.inr rfl) (pb_op op_modN o2_mod (pb_op op_pow o2_pow (pb_op op_addA o2_add (pb_op op_addA o2_add (pb_op op_mulX o2_mul (pb_v 3 rfl) pb_int) (pb_op op_modN o2_mod (pb_ix ix_seq o2_ix (fun _ _ => rfl) (pb_v 0 rfl) (pb_v 4 rfl)) pb_int)) (pb_op op_mulX o2_mul (pb_v 4 rfl) (pb_v 4 rfl))) pb_int) pb_int)))) (pssb_cons (psb_if (ptb_cmp op_lt o2_lt (nomark _) (pb_v 2 rfl) (pb_op op_pow o2_pow pb_int pb_int)) (pssb_one (psb_set (i := 2) rfl nd rfl (by first | exact Or.inl rfl | exact Or.inr rfl) pb_int)) pssb_nil) (pssb_one (psb_ret (pb_box (pab_cons (pb_v 2 rfl) (pab_cons (pb_v 3 rfl) pab_nil))) (fun _ _ _ _ _ _ _ => rid))))))))
theorem ok_f__law_take (t : Tx K mg) (W : Here K mg "_law_take" (topS 7) ["_law_bag_here", "_law_many"])  : CalB P w K mg base 1 "_law_take" .fz f__law_take :=
  calB (lin' := []) W sc_f__law_take fun f cdv A outer s H E en hx => by
  have nd := sc_f__law_take.nd
  exact (pssb_cons (psb_if (ptb_cmp op_gt o2_gt (nomark _) (pb_ix ix_seq o2_ix (fun _ _ => rfl) (pb_v 0 rfl) pb_int) pb_int) (pssb_cons (psb_set (i := 4) rfl nd rfl (by first | exact Or.inl rfl | exact Or.inr rfl) (pb_op op_modN o2_mod (pb_ix ix_seq o2_ix (fun _ _ => rfl) (pb_v 0 rfl) pb_int) (pb_v 1 rfl))) (pssb_cons (psb_putB (pb_v 0 rfl) pb_int (pb_op op_divA o2_div (pb_ix ix_seq o2_ix (fun _ _ => rfl) (pb_v 0 rfl) pb_int) (pb_v 1 rfl))) (pssb_one (psb_ret (pb_v 4 rfl) (fun _ _ _ _ _ _ _ => rid))))) pssb_nil) (pssb_cons (psb_set (i := 2) rfl nd rfl (by first | exact Or.inl rfl | exact Or.inr rfl) pb_int) (pssb_cons (psb_set (i := 3) rfl nd rfl (by first | exact Or.inl rfl | exact Or.inr rfl) pb_int) (pssb_cons (psb_while hx.po (ptb_cmp op_lt o2_lt (nomark _) (pb_v 3 rfl) (pb_v 1 rfl)) (pssb_cons (psb_putB (pb_v 0 rfl) pb_int (pb_op op_modN o2_mod (pb_op op_pow o2_pow (pb_op op_addA o2_add (pb_op op_mulX o2_mul (pb_ix ix_seq o2_ix (fun _ _ => rfl) (pb_v 0 rfl) pb_int) pb_int) pb_int) pb_int) pb_int)) (pssb_cons (psb_set (i := 2) rfl nd rfl (by first | exact Or.inl rfl | exact Or.inr rfl) (pb_op op_addA o2_add (pb_op op_mulX o2_mul (pb_v 2 rfl) pb_int) (pb_op op_modN o2_mod (pb_op op_mulX o2_mul (pb_op op_divA o2_div (pb_ix ix_seq o2_ix (fun _ _ => rfl) (pb_v 0 rfl) pb_int) pb_int) pb_int) pb_int))) (pssb_one (psb_set (i := 3) rfl nd rfl (by first | exact Or.inl rfl | exact Or.inr rfl) (pb_op op_mulX o2_mul (pb_v 3 rfl) pb_int)))))) (pssb_one (psb_ret (pb_op op_modN o2_mod (pb_v 2 rfl) (pb_v 1 rfl)) (fun _ _ _ _ _ _ _ => rid)))))))
theorem ok_f__law_name (t : Tx K mg) (W : Here K mg "_law_name" (topS 12) ["_law_bag_here"]) (c_f__law_take : CalB P w K mg base 1 "_law_take" .fz f__law_take) : CalB P w K mg base 2 "_law_name" .fz f__law_name :=
  calB (lin' := []) W sc_f__law_name fun f cdv A outer s H E en hx => by
  have nd := sc_f__law_name.nd
  exact (pssb_one (psb_ret (pb_join pb_str (pb_lc (own := [("_law_k", 1)]) rfl nd (pib_r1 (by rfl) t.z_range (pb_op op_addA o2_add pb_int (pb_call c_f__law_take hx.room (by decide) hx.tk (by rfl) (pab_cons (pb_v 0 rfl) (pab_cons pb_int pab_nil))))) (blkOk_by (N := ["_law_bag_here", "_law_k"]) (sc := defScope (topS 12)) (by decide +kernel)) (gok_nm rfl) (by decide) tt_yes (fun _ _ _ _ _ => (pg_name (i := 1) nd rfl (by first | exact Or.inl rfl | exact Or.inr rfl))) (fun _ _ _ _ _ => pts_nil) (fun _ _ _ _ _ => (pb_ix ix_seq o2_ix (fun _ _ => rfl) pb_str (pb_call c_f__law_take hx.room (by decide) takes0 (by rfl) (pab_cons (pb_v 0 rfl) (pab_cons pb_int pab_nil))))))) (fun _ _ _ _ _ _ _ => rid)))
theorem ok_f__law_item (t : Tx K mg) (W : Here K mg "_law_item" (topS 13) ["_law_bag_here", "_law_axes"]) (c_f__law_take : CalB P w K mg base 1 "_law_take" .fz f__law_take) (c_f__law_name : CalB P w K mg base 2 "_law_name" .fz f__law_name) : CalB P w K mg base 3 "_law_item" .fz f__law_item :=
  calB (lin' := []) W sc_f__law_item fun f cdv A outer s H E en hx => by
  have nd := sc_f__law_item.nd
  exact (pssb_cons (psb_set (i := 2) rfl nd rfl (by first | exact Or.inl rfl | exact Or.inr rfl) (pb_call c_f__law_take hx.room (by decide) hx.tk (by rfl) (pab_cons (pb_v 0 rfl) (pab_cons pb_int pab_nil)))) (pssb_cons (psb_if (ptb_cmp (op_eqD hx.room.units) o2_eq (nomark _) (pb_v 2 rfl) pb_int) (pssb_one (psb_ret (pb_tup (pab_cons pb_str (pab_cons (pb_op op_addA o2_add pb_int (pb_call c_f__law_take hx.room (by decide) hx.tk (by rfl) (pab_cons (pb_v 0 rfl) (pab_cons pb_int pab_nil)))) pab_nil))) (fun _ _ _ _ _ _ _ => rid))) pssb_nil) (pssb_cons (psb_if (ptb_cmp (op_eqD hx.room.units) o2_eq (nomark _) (pb_v 2 rfl) pb_int) (pssb_one (psb_ret (pb_tup (pab_cons pb_str (pab_cons (pb_ix ix_seq o2_ix (fun _ _ => rfl) (pb_lst (pab_cons pb_str (pab_cons pb_str pab_nil))) (pb_call c_f__law_take hx.room (by decide) hx.tk (by rfl) (pab_cons (pb_v 0 rfl) (pab_cons pb_int pab_nil)))) pab_nil))) (fun _ _ _ _ _ _ _ => rid))) pssb_nil) (pssb_cons (psb_if (ptb_cmp (op_eqD hx.room.units) o2_eq (nomark _) (pb_v 2 rfl) pb_int) (pssb_one (psb_ret (pb_tup (pab_cons pb_str (pab_cons (pb_call c_f__law_name hx.room (by decide) hx.tk (by rfl) (pab_cons (pb_v 0 rfl) pab_nil)) pab_nil))) (fun _ _ _ _ _ _ _ => rid))) pssb_nil) (pssb_cons (psb_set (i := 3) rfl nd rfl (by first | exact Or.inl rfl | exact Or.inr rfl) (pb_op op_addA o2_add pb_int (pb_call c_f__law_take hx.room (by decide) hx.tk (by rfl) (pab_cons (pb_v 0 rfl) (pab_cons pb_int pab_nil))))) (pssb_cons (psb_set (i := 4) rfl nd rfl (by first | exact Or.inl rfl | exact Or.inr rfl) (pb_ix ix_seq o2_ix (fun _ _ => rfl) (pb_lst (pab_cons pb_int (pab_cons pb_int (pab_cons pb_int pab_nil)))) (pb_call c_f__law_take hx.room (by decide) hx.tk (by rfl) (pab_cons (pb_v 0 rfl) (pab_cons pb_int pab_nil))))) (pssb_cons (by first | exact (psb_setO (i := 5) nd rfl (by first | exact Or.inl rfl | exact Or.inr rfl) (pb_lc (own := [("_law_axis", 6)]) rfl nd (pib_r1 (by rfl) t.z_range (pb_v 1 rfl)) (blkOk_by (N := ["_law_bag_here", "_law_axes", "_law_sort", "_law_speed", "_law_most", "_law_steps", "_law_axis"]) (sc := defScope (topS 13)) (by decide +kernel)) (gok_nm rfl) (by decide) tt_yes (fun _ _ _ _ _ => (pg_name (i := 6) nd rfl (by first | exact Or.inl rfl | exact Or.inr rfl))) (fun _ _ _ _ _ => pts_nil) (fun _ _ _ _ _ => (pb_op op_sub o2_sub (pb_call c_f__law_take hx.room (by decide) takes0 (by rfl) (pab_cons (pb_v 0 rfl) (pab_cons (pb_op op_addA o2_add (pb_op op_mulX o2_mul pb_int (pb_v 4 rfl)) pb_int) pab_nil))) (pb_v 4 rfl))))) | exact (psb_setLcO (i := 5) (own := [("_law_axis", 6)]) rfl nd rfl rfl rfl (pib_r1 (by rfl) t.z_range (pb_v 1 rfl)) (blkOk_by (N := ["_law_bag_here", "_law_axes", "_law_sort", "_law_speed", "_law_most", "_law_steps", "_law_axis"]) (sc := defScope (topS 13)) (by decide +kernel)) (gok_nm rfl) (by decide) tt_yes (fun _ _ _ _ _ => (pg_name (i := 6) nd rfl (by first | exact Or.inl rfl | exact Or.inr rfl))) (fun _ _ _ _ _ => pts_nil) (fun _ _ _ _ _ => (pb_op op_sub o2_sub (pb_call c_f__law_take hx.room (by decide) takes0 (by rfl) (pab_cons (pb_v 0 rfl) (pab_cons (pb_op op_addA o2_add (pb_op op_mulX o2_mul pb_int (pb_v 4 rfl)) pb_int) pab_nil))) (pb_v 4 rfl))))) (pssb_cons (psb_if (ptb_not (ptb_val (pb_c1 (cr_anyA rfl) o1_any (by rfl) t.z_any PyProof.Rows.boot_any (pb_vl 5 rfl)))) (pssb_one (psb_put (i := 5) rfl (pb_call c_f__law_take hx.room (by decide) hx.tk (by rfl) (pab_cons (pb_v 0 rfl) (pab_cons (pb_v 1 rfl) pab_nil))) pb_int)) pssb_nil) (pssb_one (psb_ret (pb_tup (pab_cons pb_str (pab_cons (pb_y1 call_tuple_of o1_tuple (by rfl) t.z_tuple PyProof.Rows.boot_tuple (pb_vl 5 rfl)) (pab_cons (pb_v 3 rfl) pab_nil)))) (fun _ _ _ _ _ _ _ => rid)))))))))))
theorem ok_f__law_divisor (t : Tx K mg) (W : Here K mg "_law_divisor" (topS 8) ["_law_one", "_law_other"])  : CalB P w K mg base 1 "_law_divisor" .fz f__law_divisor :=
  calB (lin' := []) W sc_f__law_divisor fun f cdv A outer s H E en hx => by
  have nd := sc_f__law_divisor.nd
  exact (pssb_cons (psb_while hx.po (ptb_cmp (op_neD hx.room.units) o2_ne (nomark _) (pb_v 1 rfl) pb_int) (pssb_one (psb_par (i := 0) (j := 1) rfl nd rfl rfl rfl rfl (by decide) rfl rfl (pab_cons (pb_v 1 rfl) (pab_cons (pb_op op_modN o2_mod (pb_v 0 rfl) (pb_v 1 rfl)) pab_nil)) (by rfl)))) (pssb_one (psb_ret (pb_c1 call_abs o1_abs (by rfl) t.z_abs PyProof.Rows.boot_abs (pb_v 0 rfl)) (fun _ _ _ _ _ _ _ => rid))))
theorem ok_f__law_lowest (t : Tx K mg) (W : Here K mg "_law_lowest" (topS 10) ["_law_p", "_law_q"]) (c_f__law_divisor : CalB P w K mg base 1 "_law_divisor" .fz f__law_divisor) : CalB P w K mg base 2 "_law_lowest" .fz f__law_lowest :=
  calB (lin' := []) W sc_f__law_lowest fun f cdv A outer s H E en hx => by
  have nd := sc_f__law_lowest.nd
  exact (pssb_cons (psb_set (i := 2) rfl nd rfl (by first | exact Or.inl rfl | exact Or.inr rfl) (pb_call c_f__law_divisor hx.room (by decide) hx.tk (by rfl) (pab_cons (pb_v 0 rfl) (pab_cons (pb_v 1 rfl) pab_nil)))) (pssb_cons (psb_if (ptb_cmp op_lt o2_lt (nomark _) (pb_v 1 rfl) pb_int) (pssb_one (psb_set (i := 2) rfl nd rfl (by first | exact Or.inl rfl | exact Or.inr rfl) (pb_un un_neg o1_neg (pb_v 2 rfl)))) pssb_nil) (pssb_one (psb_ret (pb_tup (pab_cons (pb_op op_divA o2_div (pb_v 0 rfl) (pb_v 2 rfl)) (pab_cons (pb_op op_divA o2_div (pb_v 1 rfl) (pb_v 2 rfl)) pab_nil))) (fun _ _ _ _ _ _ _ => rid)))))
theorem ok_f__law_number (t : Tx K mg) (W : Here K mg "_law_number" (topS 9) ["_law_bag_here"]) (c_f__law_take : CalB P w K mg base 1 "_law_take" .fz f__law_take) : CalB P w K mg base 2 "_law_number" .fz f__law_number :=
  calB (lin' := []) W sc_f__law_number fun f cdv A outer s H E en hx => by
  have nd := sc_f__law_number.nd
  exact (pssb_cons (psb_set (i := 1) rfl nd rfl (by first | exact Or.inl rfl | exact Or.inr rfl) (pb_call c_f__law_take hx.room (by decide) hx.tk (by rfl) (pab_cons (pb_v 0 rfl) (pab_cons pb_int pab_nil)))) (pssb_cons (psb_if (ptb_cmp op_lt o2_lt (nomark _) (pb_v 1 rfl) pb_int) (pssb_one (psb_ret (pb_call c_f__law_take hx.room (by decide) hx.tk (by rfl) (pab_cons (pb_v 0 rfl) (pab_cons (pb_ix ix_seq o2_ix (fun _ _ => rfl) (pb_lst (pab_cons pb_int (pab_cons pb_int pab_nil))) (pb_v 1 rfl)) pab_nil))) (fun _ _ _ _ _ _ _ => rid))) pssb_nil) (pssb_cons (psb_if (ptb_cmp (op_eqD hx.room.units) o2_eq (nomark _) (pb_v 1 rfl) pb_int) (pssb_one (psb_ret (pb_call c_f__law_take hx.room (by decide) hx.tk (by rfl) (pab_cons (pb_v 0 rfl) (pab_cons (pb_op op_pow o2_pow pb_int pb_int) pab_nil))) (fun _ _ _ _ _ _ _ => rid))) pssb_nil) (pssb_one (psb_ret (pb_op op_addA o2_add (pb_op op_sub o2_sub (pb_op op_shl o2_shl pb_int (pb_call c_f__law_take hx.room (by decide) hx.tk (by rfl) (pab_cons (pb_v 0 rfl) (pab_cons pb_int pab_nil)))) pb_int) (pb_call c_f__law_take hx.room (by decide) hx.tk (by rfl) (pab_cons (pb_v 0 rfl) (pab_cons pb_int pab_nil)))) (fun _ _ _ _ _ _ _ => rid))))))
theorem ok_f__law_fraction (t : Tx K mg) (W : Here K mg "_law_fraction" (topS 11) ["_law_bag_here"]) (c_f__law_lowest : CalB P w K mg base 2 "_law_lowest" .fz f__law_lowest) (c_f__law_take : CalB P w K mg base 1 "_law_take" .fz f__law_take) (c_f__law_number : CalB P w K mg base 2 "_law_number" .fz f__law_number) : CalB P w K mg base 3 "_law_fraction" .fz f__law_fraction :=
  calB (lin' := []) W sc_f__law_fraction fun f cdv A outer s H E en hx => by
  have nd := sc_f__law_fraction.nd
  exact (pssb_cons (psb_set (i := 1) rfl nd rfl (by first | exact Or.inl rfl | exact Or.inr rfl) (pb_op op_sub o2_sub pb_int (pb_op op_mulX o2_mul pb_int (pb_call c_f__law_take hx.room (by decide) hx.tk (by rfl) (pab_cons (pb_v 0 rfl) (pab_cons pb_int pab_nil)))))) (pssb_one (psb_ret (pb_call c_f__law_lowest hx.room (by decide) hx.tk (by rfl) (pab_cons (pb_op op_mulX o2_mul (pb_v 1 rfl) (pb_call c_f__law_number hx.room (by decide) hx.tk (by rfl) (pab_cons (pb_v 0 rfl) pab_nil))) (pab_cons (pb_op op_addA o2_add pb_int (pb_op op_modN o2_mod (pb_call c_f__law_number hx.room (by decide) hx.tk (by rfl) (pab_cons (pb_v 0 rfl) pab_nil)) (pb_op op_sub o2_sub (pb_op op_pow o2_pow pb_int pb_int) pb_int))) pab_nil))) (fun _ _ _ _ _ _ _ => rid))))
theorem ok_f__law_entry (t : Tx K mg) (W : Here K mg "_law_entry" (topS 17) ["_law_bag_here", "_law_axes"]) (c_f__law_take : CalB P w K mg base 1 "_law_take" .fz f__law_take) (c_f__law_item : CalB P w K mg base 3 "_law_item" .fz f__law_item) (c_f__law_fraction : CalB P w K mg base 3 "_law_fraction" .fz f__law_fraction) : CalB P w K mg base 4 "_law_entry" .fz f__law_entry :=
  calB (lin' := []) W sc_f__law_entry fun f cdv A outer s H E en hx => by
  have nd := sc_f__law_entry.nd
  exact (pssb_cons (psb_set (i := 2) rfl nd rfl (by first | exact Or.inl rfl | exact Or.inr rfl) (pb_call c_f__law_take hx.room (by decide) hx.tk (by rfl) (pab_cons (pb_v 0 rfl) (pab_cons pb_int pab_nil)))) (pssb_cons (psb_set (i := 3) rfl nd rfl (by first | exact Or.inl rfl | exact Or.inr rfl) (pb_call c_f__law_item hx.room (by decide) hx.tk (by rfl) (pab_cons (pb_v 0 rfl) (pab_cons (pb_v 1 rfl) pab_nil)))) (pssb_cons (psb_if (pwb_t (pwb_and (ptb_cmp (op_eqD hx.room.units) o2_eq (nomark _) (pb_v 2 rfl) pb_int) (pwb_and1 (ptb_cmp (op_neD hx.room.units) o2_ne (nomark _) (pb_ix ix_seq o2_ix (fun _ _ => rfl) (pb_v 3 rfl) pb_int) pb_str)))) (pssb_one (psb_ret (pb_v 3 rfl) (fun _ _ _ _ _ _ _ => rid))) pssb_nil) (pssb_cons (psb_set (i := 4) rfl nd rfl (by first | exact Or.inl rfl | exact Or.inr rfl) (pb_y1 call_tuple_of o1_tuple (by rfl) t.z_tuple PyProof.Rows.boot_tuple (pb_lc (own := [("_law_axis", 6)]) rfl nd (pib_r1 (by rfl) t.z_range (pb_v 1 rfl)) (blkOk_by (N := ["_law_bag_here", "_law_axes", "_law_how", "_law_item_here", "_law_row", "_law_square", "_law_axis"]) (sc := defScope (topS 17)) (by decide +kernel)) (gok_nm rfl) (by decide) tt_yes (fun _ _ _ _ _ => (pg_name (i := 6) nd rfl (by first | exact Or.inl rfl | exact Or.inr rfl))) (fun _ _ _ _ _ => pts_nil) (fun _ _ _ _ _ => (pb_op op_sub o2_sub (pb_call c_f__law_take hx.room (by decide) takes0 (by rfl) (pab_cons (pb_v 0 rfl) (pab_cons pb_int pab_nil))) pb_int))))) (pssb_cons (psb_set (i := 5) rfl nd rfl (by first | exact Or.inl rfl | exact Or.inr rfl) (pb_call c_f__law_fraction hx.room (by decide) hx.tk (by rfl) (pab_cons (pb_v 0 rfl) pab_nil))) (pssb_one (psb_ret (pb_tup (pab_cons pb_str (pab_cons (pb_v 4 rfl) (pab_cons (pb_op op_addA o2_add pb_int (pb_call c_f__law_take hx.room (by decide) hx.tk (by rfl) (pab_cons (pb_v 0 rfl) (pab_cons pb_int pab_nil)))) (pab_cons (pb_tup (pab_cons (pb_c2 (call_max2 rfl) o2_max (by rfl) t.z_max PyProof.Rows.boot_max pb_int (pb_c1 call_abs o1_abs (by rfl) t.z_abs PyProof.Rows.boot_abs (pb_ix ix_seq o2_ix (fun _ _ => rfl) (pb_v 5 rfl) pb_int))) (pab_cons (pb_if (ptb_cmp (op_neD hx.room.units) o2_ne (nomark _) (pb_ix ix_seq o2_ix (fun _ _ => rfl) (pb_v 5 rfl) pb_int) pb_int) (pb_ix ix_seq o2_ix (fun _ _ => rfl) (pb_v 5 rfl) pb_int) pb_int) pab_nil))) pab_nil))))) (fun _ _ _ _ _ _ _ => rid))))))))
theorem ok_f__law_item_text (t : Tx K mg) (W : Here K mg "_law_item_text" (topS 14) ["_law_item_here"])  : CalB P w K mg base 1 "_law_item_text" .fz f__law_item_text :=
  calB (lin' := []) W sc_f__law_item_text fun f cdv A outer s H E en hx => by
  have nd := sc_f__law_item_text.nd
  exact (pssb_cons (psb_if (ptb_cmp (op_eqD hx.room.units) o2_eq (nomark _) (pb_ix ix_seq o2_ix (fun _ _ => rfl) (pb_v 0 rfl) pb_int) pb_str) (pssb_one (psb_ret (pb_op op_addA o2_add (pb_op op_addA o2_add (pb_op op_addA o2_add pb_str (pb_join pb_str (pb_lc (own := [("_law_step", 1)]) rfl nd (pib_tup (pb_ix ix_seq o2_ix (fun _ _ => rfl) (pb_v 0 rfl) pb_int)) (blkOk_by (N := ["_law_item_here", "_law_step"]) (sc := defScope (topS 14)) (by decide +kernel)) (gok_nm rfl) (by decide) tt_yes (fun _ _ _ _ _ => (pg_name (i := 1) nd rfl (by first | exact Or.inl rfl | exact Or.inr rfl))) (fun _ _ _ _ _ => pts_nil) (fun _ _ _ _ _ => (pb_y1 call_strA o1_str (by rfl) t.z_str PyProof.Rows.boot_str (pb_v 1 rfl)))))) pb_str) (pb_y1 call_strA o1_str (by rfl) t.z_str PyProof.Rows.boot_str (pb_ix ix_seq o2_ix (fun _ _ => rfl) (pb_v 0 rfl) pb_int))) (fun _ _ _ _ _ _ _ => rid))) pssb_nil) (pssb_one (psb_ret (pb_op op_addA o2_add (pb_op op_addA o2_add (pb_ix ix_seq o2_ix (fun _ _ => rfl) (pb_v 0 rfl) pb_int) pb_str) (pb_y1 call_strA o1_str (by rfl) t.z_str PyProof.Rows.boot_str (pb_ix ix_seq o2_ix (fun _ _ => rfl) (pb_v 0 rfl) pb_int))) (fun _ _ _ _ _ _ _ => rid))))
theorem ok_f__law_right (t : Tx K mg) (W : Here K mg "_law_right" (topS 18) ["_law_told", "_law_due"])  : CalB P w K mg base 1 "_law_right" .fz f__law_right :=
  calB (lin' := []) W sc_f__law_right fun f cdv A outer s H E en hx => by
  have nd := sc_f__law_right.nd
  exact (pssb_one (psb_ret (pb_and (pb_isi (by rfl) t.z_isinstance (by rfl) t.z_str PyProof.Rows.boot_str (by decide) (pb_v 0 rfl)) (pb_one (pb_cmp (op_eqD hx.room.units) o2_eq (nomark _) (pb_v 0 rfl) (pb_v 1 rfl)))) (fun _ _ _ _ _ _ _ => rid)))
theorem ok_f_show_fraction (t : Tx K mg) (W : Here K mg "show_fraction" (topS 1) ["one"])  : CalB P w K mg base 1 "show_fraction" .fz f_show_fraction :=
  calB (lin' := []) W sc_f_show_fraction fun f cdv A outer s H E en hx => by
  have nd := sc_f_show_fraction.nd
  exact (pssb_cons (psb_if (ptb_cmp (op_eqD hx.room.units) o2_eq (nomark _) (pb_ix ix_seq o2_ix (fun _ _ => rfl) (pb_v 0 rfl) pb_int) pb_int) (pssb_one (psb_ret (pb_y1 call_strA o1_str (by rfl) t.z_str PyProof.Rows.boot_str (pb_ix ix_seq o2_ix (fun _ _ => rfl) (pb_v 0 rfl) pb_int)) (fun _ _ _ _ _ _ _ => rid))) pssb_nil) (pssb_one (psb_ret (pb_js (.cons (pb_fmt (pb_ix ix_seq o2_ix (fun _ _ => rfl) (pb_v 0 rfl) pb_int)) (.cons pb_str (.cons (pb_fmt (pb_ix ix_seq o2_ix (fun _ _ => rfl) (pb_v 0 rfl) pb_int)) .nil)))) (fun _ _ _ _ _ _ _ => rid))))
theorem ok_f__law_fraction_text (t : Tx K mg) (W : Here K mg "_law_fraction_text" (topS 15) ["_law_one"])  : CalB P w K mg base 1 "_law_fraction_text" .fz f__law_fraction_text :=
  calB (lin' := []) W sc_f__law_fraction_text fun f cdv A outer s H E en hx => by
  have nd := sc_f__law_fraction_text.nd
  exact (pssb_one (psb_ret (pb_if (ptb_cmp (op_eqD hx.room.units) o2_eq (nomark _) (pb_ix ix_seq o2_ix (fun _ _ => rfl) (pb_v 0 rfl) pb_int) pb_int) (pb_y1 call_strA o1_str (by rfl) t.z_str PyProof.Rows.boot_str (pb_ix ix_seq o2_ix (fun _ _ => rfl) (pb_v 0 rfl) pb_int)) (pb_op op_addA o2_add (pb_op op_addA o2_add (pb_y1 call_strA o1_str (by rfl) t.z_str PyProof.Rows.boot_str (pb_ix ix_seq o2_ix (fun _ _ => rfl) (pb_v 0 rfl) pb_int)) pb_str) (pb_y1 call_strA o1_str (by rfl) t.z_str PyProof.Rows.boot_str (pb_ix ix_seq o2_ix (fun _ _ => rfl) (pb_v 0 rfl) pb_int)))) (fun _ _ _ _ _ _ _ => rid)))
theorem ok_f_show_item (t : Tx K mg) (W : Here K mg "show_item" (topS 2) ["item"])  : CalB P w K mg base 1 "show_item" .fz f_show_item :=
  calB (lin' := []) W sc_f_show_item fun f cdv A outer s H E en hx => by
  have nd := sc_f_show_item.nd
  exact (pssb_cons (psb_if (ptb_cmp (op_eqD hx.room.units) o2_eq (nomark _) (pb_ix ix_seq o2_ix (fun _ _ => rfl) (pb_v 0 rfl) pb_int) pb_str) (pssb_one (psb_ret (pb_join pb_str (pb_op op_catL o2_catL (pb_op op_catL o2_catL (pb_lst (pab_cons pb_str pab_nil)) (pb_lc (own := [("step", 1)]) rfl nd (pib_tup (pb_ix ix_seq o2_ix (fun _ _ => rfl) (pb_v 0 rfl) pb_int)) (blkOk_by (N := ["item", "step"]) (sc := defScope (topS 2)) (by decide +kernel)) (gok_nm rfl) (by decide) tt_yes (fun _ _ _ _ _ => (pg_name (i := 1) nd rfl (by first | exact Or.inl rfl | exact Or.inr rfl))) (fun _ _ _ _ _ => pts_nil) (fun _ _ _ _ _ => (pb_y1 call_strA o1_str (by rfl) t.z_str PyProof.Rows.boot_str (pb_v 1 rfl))))) (pb_lst (pab_cons (pb_y1 call_strA o1_str (by rfl) t.z_str PyProof.Rows.boot_str (pb_ix ix_seq o2_ix (fun _ _ => rfl) (pb_v 0 rfl) pb_int)) pab_nil)))) (fun _ _ _ _ _ _ _ => rid))) pssb_nil) (pssb_one (psb_ret (pb_js (.cons (pb_fmt (pb_ix ix_seq o2_ix (fun _ _ => rfl) (pb_v 0 rfl) pb_int)) (.cons pb_str (.cons (pb_fmt (pb_ix ix_seq o2_ix (fun _ _ => rfl) (pb_v 0 rfl) pb_int)) .nil)))) (fun _ _ _ _ _ _ _ => rid))))
theorem ok_f_show_items (t : Tx K mg) (W : Here K mg "show_items" (topS 3) ["items"]) (c_f_show_item : CalB P w K mg base 1 "show_item" .fz f_show_item) : CalB P w K mg base 2 "show_items" .fz f_show_items :=
  calB (lin' := []) W sc_f_show_items fun f cdv A outer s H E en hx => by
  have nd := sc_f_show_items.nd
  exact (pssb_one (psb_ret (pb_join pb_str (pb_lc (own := [("item", 1)]) rfl nd (pib_tup (pb_v 0 rfl)) (blkOk_by (N := ["items", "item"]) (sc := defScope (topS 3)) (by decide +kernel)) (gok_nm rfl) (by decide) tt_yes (fun _ _ _ _ _ => (pg_name (i := 1) nd rfl (by first | exact Or.inl rfl | exact Or.inr rfl))) (fun _ _ _ _ _ => pts_nil) (fun _ _ _ _ _ => (pb_call c_f_show_item hx.room (by decide) takes0 (by rfl) (pab_cons (pb_v 1 rfl) pab_nil))))) (fun _ _ _ _ _ _ _ => rid)))
theorem ok_f_show_entry (t : Tx K mg) (W : Here K mg "show_entry" (topS 4) ["entry"]) (c_f_show_item : CalB P w K mg base 1 "show_item" .fz f_show_item) (c_f_show_fraction : CalB P w K mg base 1 "show_fraction" .fz f_show_fraction) : CalB P w K mg base 2 "show_entry" .fz f_show_entry :=
  calB (lin' := []) W sc_f_show_entry fun f cdv A outer s H E en hx => by
  have nd := sc_f_show_entry.nd
  exact (pssb_cons (psb_if (ptb_cmp (op_neD hx.room.units) o2_ne (nomark _) (pb_ix ix_seq o2_ix (fun _ _ => rfl) (pb_v 0 rfl) pb_int) pb_str) (pssb_one (psb_ret (pb_call c_f_show_item hx.room (by decide) hx.tk (by rfl) (pab_cons (pb_v 0 rfl) pab_nil)) (fun _ _ _ _ _ _ _ => rid))) pssb_nil) (pssb_cons (psb_setO (i := 1) nd rfl (by first | exact Or.inl rfl | exact Or.inr rfl) (pb_op op_catL o2_catL (pb_lc (own := [("step", 2)]) rfl nd (pib_tup (pb_ix ix_seq o2_ix (fun _ _ => rfl) (pb_v 0 rfl) pb_int)) (blkOk_by (N := ["entry", "numbers", "step"]) (sc := defScope (topS 4)) (by decide +kernel)) (gok_nm rfl) (by decide) tt_yes (fun _ _ _ _ _ => (pg_name (i := 2) nd rfl (by first | exact Or.inl rfl | exact Or.inr rfl))) (fun _ _ _ _ _ => pts_nil) (fun _ _ _ _ _ => (pb_y1 call_strA o1_str (by rfl) t.z_str PyProof.Rows.boot_str (pb_v 2 rfl)))) (pb_lst (pab_cons (pb_y1 call_strA o1_str (by rfl) t.z_str PyProof.Rows.boot_str (pb_ix ix_seq o2_ix (fun _ _ => rfl) (pb_v 0 rfl) pb_int)) (pab_cons (pb_call c_f_show_fraction hx.room (by decide) hx.tk (by rfl) (pab_cons (pb_ix ix_seq o2_ix (fun _ _ => rfl) (pb_v 0 rfl) pb_int) pab_nil)) pab_nil))))) (pssb_one (psb_ret (pb_join pb_str (pb_op op_catL o2_catL (pb_lst (pab_cons pb_str pab_nil)) (pb_vl 1 rfl))) (fun _ _ _ _ _ _ _ => rid)))))
theorem ok_f__law_entry_text (t : Tx K mg) (W : Here K mg "_law_entry_text" (topS 16) ["_law_entry_here"]) (c_f__law_item_text : CalB P w K mg base 1 "_law_item_text" .fz f__law_item_text) (c_f__law_fraction_text : CalB P w K mg base 1 "_law_fraction_text" .fz f__law_fraction_text) : CalB P w K mg base 2 "_law_entry_text" .fz f__law_entry_text :=
  calB (lin' := []) W sc_f__law_entry_text fun f cdv A outer s H E en hx => by
  have nd := sc_f__law_entry_text.nd
  exact (pssb_cons (psb_if (ptb_cmp (op_neD hx.room.units) o2_ne (nomark _) (pb_ix ix_seq o2_ix (fun _ _ => rfl) (pb_v 0 rfl) pb_int) pb_str) (pssb_one (psb_ret (pb_call c_f__law_item_text hx.room (by decide) hx.tk (by rfl) (pab_cons (pb_v 0 rfl) pab_nil)) (fun _ _ _ _ _ _ _ => rid))) pssb_nil) (pssb_cons (psb_set (i := 1) rfl nd rfl (by first | exact Or.inl rfl | exact Or.inr rfl) (pb_join pb_str (pb_lc (own := [("_law_step", 2)]) rfl nd (pib_tup (pb_ix ix_seq o2_ix (fun _ _ => rfl) (pb_v 0 rfl) pb_int)) (blkOk_by (N := ["_law_entry_here", "_law_told", "_law_step"]) (sc := defScope (topS 16)) (by decide +kernel)) (gok_nm rfl) (by decide) tt_yes (fun _ _ _ _ _ => (pg_name (i := 2) nd rfl (by first | exact Or.inl rfl | exact Or.inr rfl))) (fun _ _ _ _ _ => pts_nil) (fun _ _ _ _ _ => (pb_y1 call_strA o1_str (by rfl) t.z_str PyProof.Rows.boot_str (pb_v 2 rfl)))))) (pssb_one (psb_ret (pb_op op_addA o2_add (pb_op op_addA o2_add (pb_op op_addA o2_add (pb_op op_addA o2_add (pb_op op_addA o2_add pb_str (pb_v 1 rfl)) pb_str) (pb_y1 call_strA o1_str (by rfl) t.z_str PyProof.Rows.boot_str (pb_ix ix_seq o2_ix (fun _ _ => rfl) (pb_v 0 rfl) pb_int))) pb_str) (pb_call c_f__law_fraction_text hx.room (by decide) hx.tk (by rfl) (pab_cons (pb_ix ix_seq o2_ix (fun _ _ => rfl) (pb_v 0 rfl) pb_int) pab_nil))) (fun _ _ _ _ _ _ _ => rid)))))
theorem ok_f_law (t : Tx K mg) {f : Addr} {fd : FuncData} (W : L2.Fun K "law" "law" (topS 19) f fd) (c_f__law_bag : CalB P w K mg base 1 "_law_bag" .fz f__law_bag) (c_f__law_entry : CalB P w K mg base 4 "_law_entry" .fz f__law_entry) (c_f__law_fraction : CalB P w K mg base 3 "_law_fraction" .fz f__law_fraction) (c_f__law_take : CalB P w K mg base 1 "_law_take" .fz f__law_take) (c_f__law_item : CalB P w K mg base 3 "_law_item" .fz f__law_item) (c_f__law_item_text : CalB P w K mg base 1 "_law_item_text" .fz f__law_item_text) (c_f__law_right : CalB P w K mg base 1 "_law_right" .fz f__law_right) (c_f_show_fraction : CalB P w K mg base 1 "show_fraction" .fz f_show_fraction) (c_f__law_fraction_text : CalB P w K mg base 1 "_law_fraction_text" .fz f__law_fraction_text) (c_f_show_items : CalB P w K mg base 2 "show_items" .fz f_show_items) (c_f_show_entry : CalB P w K mg base 2 "show_entry" .fz f_show_entry) (c_f__law_entry_text : CalB P w K mg base 2 "_law_entry_text" .fz f__law_entry_text) : FnOk P w K mg base (L2.CX P w) 5 f fd ["_law_script"] (spB K mg .fz f_law) :=
  fnB (lin' := []) W sc_f_law fun f cdv A outer s H E en hx => by
  have nd := sc_f_law.nd
  exact (pssb_cons (psb_for hx.po rfl (pib_r1 (by rfl) t.z_range (pb_c2 (call_max2 rfl) o2_max (by rfl) t.z_max PyProof.Rows.boot_max pb_int (pb_c2 (call_min2 rfl) o2_min (by rfl) t.z_min PyProof.Rows.boot_min pb_int (pb_c1 call_len o1_len (by rfl) t.z_len PySem.boot_len (pb_v 0 rfl))))) (gok_nm rfl) (pg_name (i := 1) nd rfl (by first | exact Or.inl rfl | exact Or.inr rfl)) (pssb_cons (psb_set (i := 2) rfl nd rfl (by first | exact Or.inl rfl | exact Or.inr rfl) (pb_call c_f__law_bag hx.room (by decide) hx.tk (by rfl) (pab_cons (pb_v 0 rfl) (pab_cons (pb_v 1 rfl) pab_nil)))) (pssb_cons (psb_set (i := 3) rfl nd rfl (by first | exact Or.inl rfl | exact Or.inr rfl) (pb_op op_addA o2_add pb_int (pb_call c_f__law_take hx.room (by decide) hx.tk (by rfl) (pab_cons (pb_v 2 rfl) (pab_cons pb_int pab_nil))))) (pssb_cons (psb_set (i := 4) rfl nd rfl (by first | exact Or.inl rfl | exact Or.inr rfl) (pb_y1 call_tuple_of o1_tuple (by rfl) t.z_tuple PyProof.Rows.boot_tuple (pb_lc (own := [("_law_k", 9)]) rfl nd (pib_r1 (by rfl) t.z_range (pb_call c_f__law_take hx.room (by decide) hx.tk (by rfl) (pab_cons (pb_v 2 rfl) (pab_cons pb_int pab_nil)))) (blkOk_by (N := ["_law_script", "_law_at", "_law_bag_here", "_law_axes", "_law_items", "_law_entry_here", "_law_one", "_law_due", "_law_again", "_law_k", "_law_item_here"]) (sc := defScope (topS 19)) (by decide +kernel)) (gok_nm rfl) (by decide) tt_yes (fun _ _ _ _ _ => (pg_name (i := 9) nd rfl (by first | exact Or.inl rfl | exact Or.inr rfl))) (fun _ _ _ _ _ => pts_nil) (fun _ _ _ _ _ => (pb_call c_f__law_item hx.room (by decide) takes0 (by rfl) (pab_cons (pb_v 2 rfl) (pab_cons (pb_v 3 rfl) pab_nil))))))) (pssb_cons (psb_set (i := 5) rfl nd rfl (by first | exact Or.inl rfl | exact Or.inr rfl) (pb_call c_f__law_entry hx.room (by decide) hx.tk (by rfl) (pab_cons (pb_v 2 rfl) (pab_cons (pb_v 3 rfl) pab_nil)))) (pssb_cons (psb_set (i := 6) rfl nd rfl (by first | exact Or.inl rfl | exact Or.inr rfl) (pb_call c_f__law_fraction hx.room (by decide) hx.tk (by rfl) (pab_cons (pb_v 2 rfl) pab_nil))) (pssb_cons (psb_set (i := 7) rfl nd rfl (by first | exact Or.inl rfl | exact Or.inr rfl) (pb_join pb_str (pb_lc (own := [("_law_item_here", 10)]) rfl nd (pib_tup (pb_v 4 rfl)) (blkOk_by (N := ["_law_script", "_law_at", "_law_bag_here", "_law_axes", "_law_items", "_law_entry_here", "_law_one", "_law_due", "_law_again", "_law_k", "_law_item_here"]) (sc := defScope (topS 19)) (by decide +kernel)) (gok_nm rfl) (by decide) tt_yes (fun _ _ _ _ _ => (pg_name (i := 10) nd rfl (by first | exact Or.inl rfl | exact Or.inr rfl))) (fun _ _ _ _ _ => pts_nil) (fun _ _ _ _ _ => (pb_call c_f__law_item_text hx.room (by decide) takes0 (by rfl) (pab_cons (pb_v 10 rfl) pab_nil)))))) (pssb_one (psb_for hx.po rfl (pib_r1 (by rfl) t.z_range pb_int) (gok_nm rfl) (pg_name (i := 8) nd rfl (by first | exact Or.inl rfl | exact Or.inr rfl)) (pssb_cons (psb_if (pwb_t (pwb_or (ptb_not (ptb_val (pb_call c_f__law_right hx.room (by decide) hx.tk (by rfl) (pab_cons (pb_call c_f_show_items hx.room (by decide) hx.tk (by rfl) (pab_cons (pb_v 4 rfl) pab_nil)) (pab_cons (pb_v 7 rfl) pab_nil))))) (pwb_or1 (ptb_not (ptb_val (pb_call c_f__law_right hx.room (by decide) hx.tk (by rfl) (pab_cons (pb_call c_f_show_entry hx.room (by decide) hx.tk (by rfl) (pab_cons (pb_v 5 rfl) pab_nil)) (pab_cons (pb_call c_f__law_entry_text hx.room (by decide) hx.tk (by rfl) (pab_cons (pb_v 5 rfl) pab_nil)) pab_nil)))))))) (pssb_one (psb_ret pb_bl (fun _ _ _ _ _ _ _ => rid))) pssb_nil) (pssb_one (psb_if (ptb_not (ptb_val (pb_call c_f__law_right hx.room (by decide) hx.tk (by rfl) (pab_cons (pb_call c_f_show_fraction hx.room (by decide) hx.tk (by rfl) (pab_cons (pb_v 6 rfl) pab_nil)) (pab_cons (pb_call c_f__law_fraction_text hx.room (by decide) hx.tk (by rfl) (pab_cons (pb_v 6 rfl) pab_nil)) pab_nil))))) (pssb_one (psb_ret pb_bl (fun _ _ _ _ _ _ _ => rid))) pssb_nil)))))))))))) (pssb_one (psb_ret pb_bl (fun _ _ _ _ _ _ _ => rid))))
theorem all_ok (t : Tx K mg) {f : Addr} {fd : FuncData} (W : L2.Fun K "law" "law" (topS 19) f fd) (W__law_bag : Here K mg "_law_bag" (topS 6) ["_law_script", "_law_at"]) (W__law_take : Here K mg "_law_take" (topS 7) ["_law_bag_here", "_law_many"]) (W__law_name : Here K mg "_law_name" (topS 12) ["_law_bag_here"]) (W__law_item : Here K mg "_law_item" (topS 13) ["_law_bag_here", "_law_axes"]) (W__law_divisor : Here K mg "_law_divisor" (topS 8) ["_law_one", "_law_other"]) (W__law_lowest : Here K mg "_law_lowest" (topS 10) ["_law_p", "_law_q"]) (W__law_number : Here K mg "_law_number" (topS 9) ["_law_bag_here"]) (W__law_fraction : Here K mg "_law_fraction" (topS 11) ["_law_bag_here"]) (W__law_entry : Here K mg "_law_entry" (topS 17) ["_law_bag_here", "_law_axes"]) (W__law_item_text : Here K mg "_law_item_text" (topS 14) ["_law_item_here"]) (W__law_right : Here K mg "_law_right" (topS 18) ["_law_told", "_law_due"]) (W_show_fraction : Here K mg "show_fraction" (topS 1) ["one"]) (W__law_fraction_text : Here K mg "_law_fraction_text" (topS 15) ["_law_one"]) (W_show_item : Here K mg "show_item" (topS 2) ["item"]) (W_show_items : Here K mg "show_items" (topS 3) ["items"]) (W_show_entry : Here K mg "show_entry" (topS 4) ["entry"]) (W__law_entry_text : Here K mg "_law_entry_text" (topS 16) ["_law_entry_here"]) : FnOk P w K mg base (L2.CX P w) 5 f fd ["_law_script"] (spB K mg .fz f_law) := by
  have c_f__law_bag : CalB P w K mg base 1 "_law_bag" .fz f__law_bag := ok_f__law_bag t W__law_bag 
  have c_f__law_take : CalB P w K mg base 1 "_law_take" .fz f__law_take := ok_f__law_take t W__law_take 
  have c_f__law_name : CalB P w K mg base 2 "_law_name" .fz f__law_name := ok_f__law_name t W__law_name c_f__law_take
  have c_f__law_item : CalB P w K mg base 3 "_law_item" .fz f__law_item := ok_f__law_item t W__law_item c_f__law_take c_f__law_name
  have c_f__law_divisor : CalB P w K mg base 1 "_law_divisor" .fz f__law_divisor := ok_f__law_divisor t W__law_divisor 
  have c_f__law_lowest : CalB P w K mg base 2 "_law_lowest" .fz f__law_lowest := ok_f__law_lowest t W__law_lowest c_f__law_divisor
  have c_f__law_number : CalB P w K mg base 2 "_law_number" .fz f__law_number := ok_f__law_number t W__law_number c_f__law_take
  have c_f__law_fraction : CalB P w K mg base 3 "_law_fraction" .fz f__law_fraction := ok_f__law_fraction t W__law_fraction c_f__law_lowest c_f__law_take c_f__law_number
  have c_f__law_entry : CalB P w K mg base 4 "_law_entry" .fz f__law_entry := ok_f__law_entry t W__law_entry c_f__law_take c_f__law_item c_f__law_fraction
  have c_f__law_item_text : CalB P w K mg base 1 "_law_item_text" .fz f__law_item_text := ok_f__law_item_text t W__law_item_text 
  have c_f__law_right : CalB P w K mg base 1 "_law_right" .fz f__law_right := ok_f__law_right t W__law_right 
  have c_f_show_fraction : CalB P w K mg base 1 "show_fraction" .fz f_show_fraction := ok_f_show_fraction t W_show_fraction 
  have c_f__law_fraction_text : CalB P w K mg base 1 "_law_fraction_text" .fz f__law_fraction_text := ok_f__law_fraction_text t W__law_fraction_text 
  have c_f_show_item : CalB P w K mg base 1 "show_item" .fz f_show_item := ok_f_show_item t W_show_item 
  have c_f_show_items : CalB P w K mg base 2 "show_items" .fz f_show_items := ok_f_show_items t W_show_items c_f_show_item
  have c_f_show_entry : CalB P w K mg base 2 "show_entry" .fz f_show_entry := ok_f_show_entry t W_show_entry c_f_show_item c_f_show_fraction
  have c_f__law_entry_text : CalB P w K mg base 2 "_law_entry_text" .fz f__law_entry_text := ok_f__law_entry_text t W__law_entry_text c_f__law_item_text c_f__law_fraction_text
  exact ok_f_law t W c_f__law_bag c_f__law_entry c_f__law_fraction c_f__law_take c_f__law_item c_f__law_item_text c_f__law_right c_f_show_fraction c_f__law_fraction_text c_f_show_items c_f_show_entry c_f__law_entry_text
end
end Lw
namespace Lw
open PySem PySem.Spec PyProof.Rows L2 GB
/-! _law_bag -/
theorem bag_loop {k c m : Int} {ns : List Int} {n : Nat} {x : Option T} {h : IH} {N : Ev → IH → Prop} {M : T → IH → Prop} (hn : n ≤ ns.length) (hn2 : n ≤ 60) (h0 : 0 ≤ m) (h1 : m < 2147483629)
    (p : ∀ m' x, 0 ≤ m' → m' < 2147483629 → N [some (.lst (ns.map T.int)), some (.int k), some (.int c), some (.int m'), x] h) :
    OkS (forGo (.nm 4) f__law_bag_b1 (rngL 0 n 1) [some (.lst (ns.map T.int)), some (.int k), some (.int c), some (.int m), x] h) N M := by
  apply range_forP (fun _ τ h' => h' = h ∧ ∃ m' x, τ = [some (.lst (ns.map T.int)), some (.int k), some (.int c), some (.int m'), x] ∧ 0 ≤ m' ∧ m' < 2147483629)
  case h0 => exact ⟨rfl, m, x, rfl, h0, h1⟩
  case fin =>
    rintro τ h' ⟨eh, m', x', e, g0, g1⟩
    rw [e, eh]; exact p _ _ g0 g1
  intro j τ h' hj hI
  have b1 : 0 ≤ 0 + (j : Int) * 1 := by omega
  have b2 : 0 + (j : Int) * 1 < ns.length := by omega
  obtain ⟨z, hz, ez⟩ := int_atI b1 b2
  obtain ⟨eh, m', x', e, g0, g1⟩ := hI
  rw [e, eh]
  refine ⟨_, rfl, ?_⟩
  unfold f__law_bag_b1
  simp only [w_ok, w_bind, w_of, w_fl, w_ite, w_iteN, ex_ite, ex_some, ex_map, ex_bind, w_C, w_V, w_Bin, w_Un, w_Nil, w_Cons, w_Tup, w_Lst, w_Box, w_Of, w_And, w_Or, w_Not, w_True, w_eAnd, w_eOr, w_eNot, w_If, w_Chain, w_oN, w_oS, w_Sl, w_Call, w_CallB, w_eJoin, w_Rev, ex_str, v_nx, v_rt, v_Skip, v_Seq, v_If, v_Ret, v_Expr, v_Set, v_Tp, v_Par, v_For, v_App, v_Mut, v_Ext, v_Put, v_PutB, ex_eqT, ex_eqL, ex_lst, ex_bl, ex_int, if_dec, w_iMap, w_iR1, w_iR2, w_iR3, w_iZ, w_iZE, w_Lc, w_LRg, v_AppPop, w_eJs, w_jsN, w_jsC, q_repL, q_gEnT, q_addT, q_shr, q_and, q_revL, q_revT, q_cat, q_lnL, p_two, q_slL, q_slT, q_add, q_sub, q_mul, q_div, q_mod, q_pow, q_shl, q_lt, q_le, q_gt, q_ge, q_max2, q_min2, q_neg, q_abs, q_intI, q_intB, q_lenT, q_lenL, q_ixT, q_ixL, q_tupL, q_tupT, q_lstL, q_lstT, q_isN, q_gL, q_gT, q_gEnL, q_eq, q_ne, okMod_iff, okAll_iff, okPow_iff, okR_iff, at0, at1, at2, at3, at4, at5, is_int_non, is_int_bl, is_int_int, is_int_str, is_int_tup, is_int_lst, is_bool_non, is_bool_bl, is_bool_int, is_bool_str, is_bool_tup, is_bool_lst, is_str_non, is_str_bl, is_str_int, is_str_str, is_str_tup, is_str_lst, is_tuple_non, is_tuple_bl, is_tuple_int, is_tuple_str, is_tuple_tup, is_tuple_lst, is_list_non, is_list_bl, is_list_int, is_list_str, is_list_tup, is_list_lst, List.map_cons, List.map_nil, List.length_cons, List.length_nil, List.cons_append, List.nil_append, List.replicate_succ, List.replicate_zero, List.getElem?_cons_zero, List.getElem?_cons_succ, List.set_cons_zero, List.set_cons_succ, List.append_nil, bindP, wipeT, setAll, Nat.reduceSub, Nat.reduceAdd, true_and, and_true, if_true, if_false, Bool.not_true, Bool.not_false, eq_self, ite_true, ite_false, reduceIte, ne_eq, not_false_eq_true, not_true_eq_false, false_or, or_false, true_or, or_true, Bool.false_eq_true, ez]
  have ej : (0 + (j : Int) * 1) = j := by omega
  rw [ej]
  have hjj : (j : Int) * j ≤ 60 * 60 := Int.mul_le_mul (by omega) (by omega) (by omega) (by omega)
  have hj0 : 0 ≤ (j : Int) * j := Int.mul_nonneg (by omega) (by omega)
  have hzm : 0 ≤ z.fmod 2147483647 ∧ z.fmod 2147483647 < 2147483647 := by rw [fmod_p (by decide)]; omega
  refine ⟨okMul_10 (by omega) (by omega) (by omega) (by omega), by decide, okMul_10 (by omega) (by omega) (by omega) (by omega), ⟨by decide, by decide, ?_⟩, by decide, ?_⟩
  · omega
  · refine ⟨_, _, rfl, ?_⟩
    rw [fmod_p (by decide)]
    omega
theorem bag_spec {ns : List Int} {k : Int} {h : IH} (hf : flatH h = true) (hl : ns.length ≤ 1000) (h0 : 0 ≤ k) (h1 : k ≤ 100) {P : T → IH → Prop} (p : ∀ n h', Bag h' n → P (.box n) h') : Ok (f__law_bag [.lst (ns.map T.int), .int k] h) P := by
  unfold f__law_bag
  rw [w_runF]
  refine ⟨rfl, ?_⟩
  have hkk : k * k ≤ 100 * 100 := Int.mul_le_mul (by omega) (by omega) (by omega) (by omega)
  have hk0 : 0 ≤ k * k := Int.mul_nonneg (by omega) (by omega)
  have e79 : 7919 * k * k = 7919 * (k * k) := Int.mul_assoc _ _ _
  have k79 : 7919 * k * k ≤ 7919 * 10000 := by omega
  have hmin : (if (60 : Int) < (ns.length : Int) then (60 : Int) else (ns.length : Int)).toNat ≤ ns.length ∧ (if (60 : Int) < (ns.length : Int) then (60 : Int) else (ns.length : Int)).toNat ≤ 60 := by split <;> omega
  have fin : ∀ c : Int, 0 ≤ c → okMul 7919 k = true ∧ okMul (7919 * k) k = true ∧ okMul 104729 k = true ∧ ((-4611686018427387904 ≤ if (60 : Int) < ns.length then (60 : Int) else ns.length) ∧ (if (60 : Int) < ns.length then (60 : Int) else ns.length) < 4611686018427387904) ∧
      OkS (forGo (.nm 4) f__law_bag_b1 (rngL 0 (if (60 : Int) < ns.length then (60 : Int) else ns.length).toNat 1) [some (.lst (ns.map T.int)), some (.int k), some (.int c), some (.int (7919 * k * k + 104729 * k + 17)), none] h)
        (fun τ' h' => ∃ m' x, 0 ≤ m' ∧ m' < 2147483629 ∧ τ' = [some (.lst (ns.map T.int)), some (.int k), some (.int c), some (.int m'), x] ∧ h' = h) P := fun c hc => by
    refine ⟨okMul_10 (by omega) (by omega) (by omega) (by omega), okMul_10 (by omega) (by omega) (by omega) (by omega), okMul_10 (by omega) (by omega) (by omega) (by omega), by split <;> omega, ?_⟩
    exact bag_loop hmin.1 hmin.2 (by omega) (by omega) fun m' x q0 q1 => ⟨m', x, q0, q1, rfl, rfl⟩
  have main : ∀ c : Int, 0 ≤ c → OkS (sSeq (sSet 3 (eBin gAdd (eBin gAdd (eBin gMul (eBin gMul (eC (.int 7919)) (eV 1)) (eV 1)) (eBin gMul (eC (.int 104729)) (eV 1))) (eC (.int 17)))) (sSeq (sFor (iR1 (eBin gMin2 (eUn gLen (eV 0)) (eC (.int 60)))) (.nm 4) f__law_bag_b1) (sSeq (sIf (sOf (eBin gLt (eV 2) (eBin gPow (eC (.int 10)) (eC (.int 18))))) (sSet 2 (eC (.int 0))) sSkip) (sRet (eBox (aCons (eV 2) (aCons (eV 3) aNil))))))
      [some (.lst (ns.map T.int)), some (.int k), some (.int c), none, none] h) (fun _ h' => P .non h') P := fun c hc => by
    obtain ⟨q1, q2, q3, q4, q5⟩ := fin c hc
    simp only [w_ok, w_bind, w_of, w_fl, w_ite, w_iteN, ex_ite, ex_some, ex_map, ex_bind, w_C, w_V, w_Bin, w_Un, w_Nil, w_Cons, w_Tup, w_Lst, w_Box, w_Of, w_And, w_Or, w_Not, w_True, w_eAnd, w_eOr, w_eNot, w_If, w_Chain, w_oN, w_oS, w_Sl, w_Call, w_CallB, w_eJoin, w_Rev, ex_str, v_nx, v_rt, v_Skip, v_Seq, v_If, v_Ret, v_Expr, v_Set, v_Tp, v_Par, v_For, v_App, v_Mut, v_Ext, v_Put, v_PutB, ex_eqT, ex_eqL, ex_lst, ex_bl, ex_int, if_dec, w_iMap, w_iR1, w_iR2, w_iR3, w_iZ, w_iZE, w_Lc, w_LRg, v_AppPop, w_eJs, w_jsN, w_jsC, q_repL, q_gEnT, q_addT, q_shr, q_and, q_revL, q_revT, q_cat, q_lnL, p_two, q_slL, q_slT, q_add, q_sub, q_mul, q_div, q_mod, q_pow, q_shl, q_lt, q_le, q_gt, q_ge, q_max2, q_min2, q_neg, q_abs, q_intI, q_intB, q_lenT, q_lenL, q_ixT, q_ixL, q_tupL, q_tupT, q_lstL, q_lstT, q_isN, q_gL, q_gT, q_gEnL, q_eq, q_ne, okMod_iff, okAll_iff, okPow_iff, okR_iff, at0, at1, at2, at3, at4, at5, is_int_non, is_int_bl, is_int_int, is_int_str, is_int_tup, is_int_lst, is_bool_non, is_bool_bl, is_bool_int, is_bool_str, is_bool_tup, is_bool_lst, is_str_non, is_str_bl, is_str_int, is_str_str, is_str_tup, is_str_lst, is_tuple_non, is_tuple_bl, is_tuple_int, is_tuple_str, is_tuple_tup, is_tuple_lst, is_list_non, is_list_bl, is_list_int, is_list_str, is_list_tup, is_list_lst, List.map_cons, List.map_nil, List.length_cons, List.length_nil, List.cons_append, List.nil_append, List.replicate_succ, List.replicate_zero, List.getElem?_cons_zero, List.getElem?_cons_succ, List.set_cons_zero, List.set_cons_succ, List.append_nil, bindP, wipeT, setAll, Nat.reduceSub, Nat.reduceAdd, true_and, and_true, if_true, if_false, Bool.not_true, Bool.not_false, eq_self, ite_true, ite_false, reduceIte, ne_eq, not_false_eq_true, not_true_eq_false, false_or, or_false, true_or, or_true, Bool.false_eq_true, List.length_map]
    refine ⟨q1, q2, q3, q4, q5.imp ?_ fun _ _ q => q⟩
    rintro τ' h' ⟨m', x, g0, g1, rfl, rfl⟩
    simp only [w_ok, w_bind, w_of, w_fl, w_ite, w_iteN, ex_ite, ex_some, ex_map, ex_bind, w_C, w_V, w_Bin, w_Un, w_Nil, w_Cons, w_Tup, w_Lst, w_Box, w_Of, w_And, w_Or, w_Not, w_True, w_eAnd, w_eOr, w_eNot, w_If, w_Chain, w_oN, w_oS, w_Sl, w_Call, w_CallB, w_eJoin, w_Rev, ex_str, v_nx, v_rt, v_Skip, v_Seq, v_If, v_Ret, v_Expr, v_Set, v_Tp, v_Par, v_For, v_App, v_Mut, v_Ext, v_Put, v_PutB, ex_eqT, ex_eqL, ex_lst, ex_bl, ex_int, if_dec, w_iMap, w_iR1, w_iR2, w_iR3, w_iZ, w_iZE, w_Lc, w_LRg, v_AppPop, w_eJs, w_jsN, w_jsC, q_repL, q_gEnT, q_addT, q_shr, q_and, q_revL, q_revT, q_cat, q_lnL, p_two, q_slL, q_slT, q_add, q_sub, q_mul, q_div, q_mod, q_pow, q_shl, q_lt, q_le, q_gt, q_ge, q_max2, q_min2, q_neg, q_abs, q_intI, q_intB, q_lenT, q_lenL, q_ixT, q_ixL, q_tupL, q_tupT, q_lstL, q_lstT, q_isN, q_gL, q_gT, q_gEnL, q_eq, q_ne, okMod_iff, okAll_iff, okPow_iff, okR_iff, at0, at1, at2, at3, at4, at5, is_int_non, is_int_bl, is_int_int, is_int_str, is_int_tup, is_int_lst, is_bool_non, is_bool_bl, is_bool_int, is_bool_str, is_bool_tup, is_bool_lst, is_str_non, is_str_bl, is_str_int, is_str_str, is_str_tup, is_str_lst, is_tuple_non, is_tuple_bl, is_tuple_int, is_tuple_str, is_tuple_tup, is_tuple_lst, is_list_non, is_list_bl, is_list_int, is_list_str, is_list_tup, is_list_lst, List.map_cons, List.map_nil, List.length_cons, List.length_nil, List.cons_append, List.nil_append, List.replicate_succ, List.replicate_zero, List.getElem?_cons_zero, List.getElem?_cons_succ, List.set_cons_zero, List.set_cons_succ, List.append_nil, bindP, wipeT, setAll, Nat.reduceSub, Nat.reduceAdd, true_and, and_true, if_true, if_false, Bool.not_true, Bool.not_false, eq_self, ite_true, ite_false, reduceIte, ne_eq, not_false_eq_true, not_true_eq_false, false_or, or_false, true_or, or_true, Bool.false_eq_true, List.length_map]
    refine ⟨by decide, ?_⟩
    have w : ∀ c : Int, 0 ≤ c → 2 ≤ sizeLine ∧ P (.box h'.length) (h' ++ [.lst [.int c, .int m']]) := fun c hc => ⟨two_line, p _ _ ⟨c, m', end_get, hc, g0, g1, flat_end hf⟩⟩
    split
    · exact w 0 (by decide)
    · exact w c hc
  rw [v_Seq, v_Set, w_C, v_Seq]
  simp only [v_If, w_ok, w_bind, w_of, w_fl, w_ite, w_iteN, ex_ite, ex_some, ex_map, ex_bind, w_C, w_V, w_Bin, w_Un, w_Nil, w_Cons, w_Tup, w_Lst, w_Box, w_Of, w_And, w_Or, w_Not, w_True, w_eAnd, w_eOr, w_eNot, w_If, w_Chain, w_oN, w_oS, w_Sl, w_Call, w_CallB, w_eJoin, w_Rev, ex_str, v_nx, v_rt, v_Skip, v_Seq, v_If, v_Ret, v_Expr, v_Set, v_Tp, v_Par, v_For, v_App, v_Mut, v_Ext, v_Put, v_PutB, ex_eqT, ex_eqL, ex_lst, ex_bl, ex_int, if_dec, w_iMap, w_iR1, w_iR2, w_iR3, w_iZ, w_iZE, w_Lc, w_LRg, v_AppPop, w_eJs, w_jsN, w_jsC, q_repL, q_gEnT, q_addT, q_shr, q_and, q_revL, q_revT, q_cat, q_lnL, p_two, q_slL, q_slT, q_add, q_sub, q_mul, q_div, q_mod, q_pow, q_shl, q_lt, q_le, q_gt, q_ge, q_max2, q_min2, q_neg, q_abs, q_intI, q_intB, q_lenT, q_lenL, q_ixT, q_ixL, q_tupL, q_tupT, q_lstL, q_lstT, q_isN, q_gL, q_gT, q_gEnL, q_eq, q_ne, okMod_iff, okAll_iff, okPow_iff, okR_iff, at0, at1, at2, at3, at4, at5, is_int_non, is_int_bl, is_int_int, is_int_str, is_int_tup, is_int_lst, is_bool_non, is_bool_bl, is_bool_int, is_bool_str, is_bool_tup, is_bool_lst, is_str_non, is_str_bl, is_str_int, is_str_str, is_str_tup, is_str_lst, is_tuple_non, is_tuple_bl, is_tuple_int, is_tuple_str, is_tuple_tup, is_tuple_lst, is_list_non, is_list_bl, is_list_int, is_list_str, is_list_tup, is_list_lst, List.map_cons, List.map_nil, List.length_cons, List.length_nil, List.cons_append, List.nil_append, List.replicate_succ, List.replicate_zero, List.getElem?_cons_zero, List.getElem?_cons_succ, List.set_cons_zero, List.set_cons_succ, List.append_nil, bindP, wipeT, setAll, Nat.reduceSub, Nat.reduceAdd, true_and, and_true, if_true, if_false, Bool.not_true, Bool.not_false, eq_self, ite_true, ite_false, reduceIte, ne_eq, not_false_eq_true, not_true_eq_false, false_or, or_false, true_or, or_true, Bool.false_eq_true, List.length_map]
  simp only [v_Seq, w_ok, w_bind, w_of, w_fl, w_ite, w_iteN, ex_ite, ex_some, ex_map, ex_bind, w_C, w_V, w_Bin, w_Un, w_Nil, w_Cons, w_Tup, w_Lst, w_Box, w_Of, w_And, w_Or, w_Not, w_True, w_eAnd, w_eOr, w_eNot, w_If, w_Chain, w_oN, w_oS, w_Sl, w_Call, w_CallB, w_eJoin, w_Rev, ex_str, v_nx, v_rt, v_Skip, v_Seq, v_If, v_Ret, v_Expr, v_Set, v_Tp, v_Par, v_For, v_App, v_Mut, v_Ext, v_Put, v_PutB, ex_eqT, ex_eqL, ex_lst, ex_bl, ex_int, if_dec, w_iMap, w_iR1, w_iR2, w_iR3, w_iZ, w_iZE, w_Lc, w_LRg, v_AppPop, w_eJs, w_jsN, w_jsC, q_repL, q_gEnT, q_addT, q_shr, q_and, q_revL, q_revT, q_cat, q_lnL, p_two, q_slL, q_slT, q_add, q_sub, q_mul, q_div, q_mod, q_pow, q_shl, q_lt, q_le, q_gt, q_ge, q_max2, q_min2, q_neg, q_abs, q_intI, q_intB, q_lenT, q_lenL, q_ixT, q_ixL, q_tupL, q_tupT, q_lstL, q_lstT, q_isN, q_gL, q_gT, q_gEnL, q_eq, q_ne, okMod_iff, okAll_iff, okPow_iff, okR_iff, at0, at1, at2, at3, at4, at5, is_int_non, is_int_bl, is_int_int, is_int_str, is_int_tup, is_int_lst, is_bool_non, is_bool_bl, is_bool_int, is_bool_str, is_bool_tup, is_bool_lst, is_str_non, is_str_bl, is_str_int, is_str_str, is_str_tup, is_str_lst, is_tuple_non, is_tuple_bl, is_tuple_int, is_tuple_str, is_tuple_tup, is_tuple_lst, is_list_non, is_list_bl, is_list_int, is_list_str, is_list_tup, is_list_lst, List.map_cons, List.map_nil, List.length_cons, List.length_nil, List.cons_append, List.nil_append, List.replicate_succ, List.replicate_zero, List.getElem?_cons_zero, List.getElem?_cons_succ, List.set_cons_zero, List.set_cons_succ, List.append_nil, bindP, wipeT, setAll, Nat.reduceSub, Nat.reduceAdd, true_and, and_true, if_true, if_false, Bool.not_true, Bool.not_false, eq_self, ite_true, ite_false, reduceIte, ne_eq, not_false_eq_true, not_true_eq_false, false_or, or_false, true_or, or_true, Bool.false_eq_true, List.length_map] at main
  split
  · obtain ⟨z, hz, ez⟩ := int_atI (ns := ns) (k := k) h0 (by omega)
    refine ⟨_, ez, _, rfl, ?_⟩
    exact main _ (Int.natCast_nonneg _)
  · exact main 0 (by decide)
/-! _law_take -/
theorem take_loop {n : Nat} {many room number c m : Int} {y : Option T} {h : IH} {N : Ev → IH → Prop} {M : T → IH → Prop} (hm : many < 10 ^ 58)
    (hf : flatH h = true) (hb : h[n]? = some (.lst [.int c, .int m])) (m0 : 0 ≤ m) (m1 : m < 2147483629) (r1 : 1 ≤ room) (r2 : room < 10 ^ 58 * 1073741789) (u0 : 0 ≤ number) (u1 : number < room)
    (p : ∀ h' m' number' room', flatH h' = true → h'[n]? = some (.lst [.int c, .int m']) → 0 ≤ m' → m' < 2147483629 → 0 ≤ number' → N [some (.box n), some (.int many), some (.int number'), some (.int room'), y] h') :
    OkS (sWh (sOf (eBin gLt (eV 3) (eV 1))) f__law_take_b1 [some (.box n), some (.int many), some (.int number), some (.int room), y] h) N M := by
  refine wh_inv (fun j τ h' => ∃ m' number' room', τ = [some (.box n), some (.int many), some (.int number'), some (.int room'), y] ∧ flatH h' = true ∧ h'[n]? = some (.lst [.int c, .int m']) ∧ 0 ≤ m' ∧ m' < 2147483629 ∧ 1 ≤ room' ∧ room' < 10 ^ 58 * 1073741789 ∧ 0 ≤ number' ∧ number' < room' ∧ (many - room').toNat ≤ j) _ _ _ ⟨m, number, room, rfl, hf, hb, m0, m1, r1, r2, u0, u1, Nat.le_refl _⟩ ?_
  rintro j τ h' ⟨m', number', room', rfl, hf', hb', g0, g1, g2, g3, g4, g5, g6⟩
  simp only [w_ok, w_bind, w_of, w_fl, w_ite, w_iteN, ex_ite, ex_some, ex_map, ex_bind, w_C, w_V, w_Bin, w_Un, w_Nil, w_Cons, w_Tup, w_Lst, w_Box, w_Of, w_And, w_Or, w_Not, w_True, w_eAnd, w_eOr, w_eNot, w_If, w_Chain, w_oN, w_oS, w_Sl, w_Call, w_CallB, w_eJoin, w_Rev, ex_str, v_nx, v_rt, v_Skip, v_Seq, v_If, v_Ret, v_Expr, v_Set, v_Tp, v_Par, v_For, v_App, v_Mut, v_Ext, v_Put, v_PutB, ex_eqT, ex_eqL, ex_lst, ex_bl, ex_int, if_dec, w_iMap, w_iR1, w_iR2, w_iR3, w_iZ, w_iZE, w_Lc, w_LRg, v_AppPop, w_eJs, w_jsN, w_jsC, q_repL, q_gEnT, q_addT, q_shr, q_and, q_revL, q_revT, q_cat, q_lnL, p_two, q_slL, q_slT, q_add, q_sub, q_mul, q_div, q_mod, q_pow, q_shl, q_lt, q_le, q_gt, q_ge, q_max2, q_min2, q_neg, q_abs, q_intI, q_intB, q_lenT, q_lenL, q_ixT, q_ixL, q_tupL, q_tupT, q_lstL, q_lstT, q_isN, q_gL, q_gT, q_gEnL, q_eq, q_ne, okMod_iff, okAll_iff, okPow_iff, okR_iff, at0, at1, at2, at3, at4, at5, is_int_non, is_int_bl, is_int_int, is_int_str, is_int_tup, is_int_lst, is_bool_non, is_bool_bl, is_bool_int, is_bool_str, is_bool_tup, is_bool_lst, is_str_non, is_str_bl, is_str_int, is_str_str, is_str_tup, is_str_lst, is_tuple_non, is_tuple_bl, is_tuple_int, is_tuple_str, is_tuple_tup, is_tuple_lst, is_list_non, is_list_bl, is_list_int, is_list_str, is_list_tup, is_list_lst, List.map_cons, List.map_nil, List.length_cons, List.length_nil, List.cons_append, List.nil_append, List.replicate_succ, List.replicate_zero, List.getElem?_cons_zero, List.getElem?_cons_succ, List.set_cons_zero, List.set_cons_succ, List.append_nil, bindP, wipeT, setAll, Nat.reduceSub, Nat.reduceAdd, true_and, and_true, if_true, if_false, Bool.not_true, Bool.not_false, eq_self, ite_true, ite_false, reduceIte, ne_eq, not_false_eq_true, not_true_eq_false, false_or, or_false, true_or, or_true, Bool.false_eq_true, q_ixB hb']
  split
  · rename_i lt
    unfold f__law_take_b1
    simp only [w_ok, w_bind, w_of, w_fl, w_ite, w_iteN, ex_ite, ex_some, ex_map, ex_bind, w_C, w_V, w_Bin, w_Un, w_Nil, w_Cons, w_Tup, w_Lst, w_Box, w_Of, w_And, w_Or, w_Not, w_True, w_eAnd, w_eOr, w_eNot, w_If, w_Chain, w_oN, w_oS, w_Sl, w_Call, w_CallB, w_eJoin, w_Rev, ex_str, v_nx, v_rt, v_Skip, v_Seq, v_If, v_Ret, v_Expr, v_Set, v_Tp, v_Par, v_For, v_App, v_Mut, v_Ext, v_Put, v_PutB, ex_eqT, ex_eqL, ex_lst, ex_bl, ex_int, if_dec, w_iMap, w_iR1, w_iR2, w_iR3, w_iZ, w_iZE, w_Lc, w_LRg, v_AppPop, w_eJs, w_jsN, w_jsC, q_repL, q_gEnT, q_addT, q_shr, q_and, q_revL, q_revT, q_cat, q_lnL, p_two, q_slL, q_slT, q_add, q_sub, q_mul, q_div, q_mod, q_pow, q_shl, q_lt, q_le, q_gt, q_ge, q_max2, q_min2, q_neg, q_abs, q_intI, q_intB, q_lenT, q_lenL, q_ixT, q_ixL, q_tupL, q_tupT, q_lstL, q_lstT, q_isN, q_gL, q_gT, q_gEnL, q_eq, q_ne, okMod_iff, okAll_iff, okPow_iff, okR_iff, at0, at1, at2, at3, at4, at5, is_int_non, is_int_bl, is_int_int, is_int_str, is_int_tup, is_int_lst, is_bool_non, is_bool_bl, is_bool_int, is_bool_str, is_bool_tup, is_bool_lst, is_str_non, is_str_bl, is_str_int, is_str_str, is_str_tup, is_str_lst, is_tuple_non, is_tuple_bl, is_tuple_int, is_tuple_str, is_tuple_tup, is_tuple_lst, is_list_non, is_list_bl, is_list_int, is_list_str, is_list_tup, is_list_lst, List.map_cons, List.map_nil, List.length_cons, List.length_nil, List.cons_append, List.nil_append, List.replicate_succ, List.replicate_zero, List.getElem?_cons_zero, List.getElem?_cons_succ, List.set_cons_zero, List.set_cons_succ, List.append_nil, bindP, wipeT, setAll, Nat.reduceSub, Nat.reduceAdd, true_and, and_true, if_true, if_false, Bool.not_true, Bool.not_false, eq_self, ite_true, ite_false, reduceIte, ne_eq, not_false_eq_true, not_true_eq_false, false_or, or_false, true_or, or_true, Bool.false_eq_true, q_ixB hb']
    have hs : ∀ d : Cell, (h'.set n d)[n]? = some d := fun d => set_get hb'
    refine ⟨okMul_10 (by omega) (by omega) (by omega) (by omega), ⟨by decide, by decide, by omega⟩, by decide, n, 1, _, 1, rfl, rfl, hb', rfl, ?_⟩
    rw [fmod_p (by decide)]
    simp only [w_ok, w_bind, w_of, w_fl, w_ite, w_iteN, ex_ite, ex_some, ex_map, ex_bind, w_C, w_V, w_Bin, w_Un, w_Nil, w_Cons, w_Tup, w_Lst, w_Box, w_Of, w_And, w_Or, w_Not, w_True, w_eAnd, w_eOr, w_eNot, w_If, w_Chain, w_oN, w_oS, w_Sl, w_Call, w_CallB, w_eJoin, w_Rev, ex_str, v_nx, v_rt, v_Skip, v_Seq, v_If, v_Ret, v_Expr, v_Set, v_Tp, v_Par, v_For, v_App, v_Mut, v_Ext, v_Put, v_PutB, ex_eqT, ex_eqL, ex_lst, ex_bl, ex_int, if_dec, w_iMap, w_iR1, w_iR2, w_iR3, w_iZ, w_iZE, w_Lc, w_LRg, v_AppPop, w_eJs, w_jsN, w_jsC, q_repL, q_gEnT, q_addT, q_shr, q_and, q_revL, q_revT, q_cat, q_lnL, p_two, q_slL, q_slT, q_add, q_sub, q_mul, q_div, q_mod, q_pow, q_shl, q_lt, q_le, q_gt, q_ge, q_max2, q_min2, q_neg, q_abs, q_intI, q_intB, q_lenT, q_lenL, q_ixT, q_ixL, q_tupL, q_tupT, q_lstL, q_lstT, q_isN, q_gL, q_gT, q_gEnL, q_eq, q_ne, okMod_iff, okAll_iff, okPow_iff, okR_iff, at0, at1, at2, at3, at4, at5, is_int_non, is_int_bl, is_int_int, is_int_str, is_int_tup, is_int_lst, is_bool_non, is_bool_bl, is_bool_int, is_bool_str, is_bool_tup, is_bool_lst, is_str_non, is_str_bl, is_str_int, is_str_str, is_str_tup, is_str_lst, is_tuple_non, is_tuple_bl, is_tuple_int, is_tuple_str, is_tuple_tup, is_tuple_lst, is_list_non, is_list_bl, is_list_int, is_list_str, is_list_tup, is_list_lst, List.map_cons, List.map_nil, List.length_cons, List.length_nil, List.cons_append, List.nil_append, List.replicate_succ, List.replicate_zero, List.getElem?_cons_zero, List.getElem?_cons_succ, List.set_cons_zero, List.set_cons_succ, List.append_nil, bindP, wipeT, setAll, Nat.reduceSub, Nat.reduceAdd, true_and, and_true, if_true, if_false, Bool.not_true, Bool.not_false, eq_self, ite_true, ite_false, reduceIte, ne_eq, not_false_eq_true, not_true_eq_false, false_or, or_false, true_or, or_true, Bool.false_eq_true, List.set_cons_succ, List.set_cons_zero, q_ixB (hs _)]
    have gm : 0 ≤ ((m' * 48271 + 7919) ^ Int.toNat 3) % 2147483629 ∧ ((m' * 48271 + 7919) ^ Int.toNat 3) % 2147483629 < 2147483629 := by omega
    generalize ((m' * 48271 + 7919) ^ Int.toNat 3) % 2147483629 = m2 at gm ⊢
    have hd : m2.fdiv 8 = m2 / 8 := fdiv_p (by decide)
    rw [hd, fmod_p (by decide)]
    refine ⟨okMul_10 (by omega) (by omega) (by omega) (by omega), okDiv_10 (by decide) (by decide), okMul_10 (by omega) (by omega) (by omega) (by omega), by decide, okMul_10 (by omega) (by omega) (by omega) (by omega), (many - room' * 1073741789).toNat, by omega, m2, _, _, rfl, flat_set hf', set_get hb', gm.1, gm.2, by omega, by omega, by omega, by omega, Nat.le_refl _⟩
  · exact p _ _ _ _ hf' hb' g0 g1 g4
theorem take_spec {n : Nat} {many : Int} {h : IH} (hb : Bag h n) (h1 : 1 ≤ many) (h2 : many < 10 ^ 58) {P : T → IH → Prop} (p : ∀ d h', Bag h' n → 0 ≤ d → d < many → P (.int d) h') : Ok (f__law_take [.box n, .int many] h) P := by
  obtain ⟨c, m, hb, c0, m0, m1, hf⟩ := hb
  unfold f__law_take
  rw [w_runF]
  refine ⟨rfl, ?_⟩
  rw [v_Seq]
  simp only [v_If, w_ok, w_bind, w_of, w_fl, w_ite, w_iteN, ex_ite, ex_some, ex_map, ex_bind, w_C, w_V, w_Bin, w_Un, w_Nil, w_Cons, w_Tup, w_Lst, w_Box, w_Of, w_And, w_Or, w_Not, w_True, w_eAnd, w_eOr, w_eNot, w_If, w_Chain, w_oN, w_oS, w_Sl, w_Call, w_CallB, w_eJoin, w_Rev, ex_str, v_nx, v_rt, v_Skip, v_Seq, v_If, v_Ret, v_Expr, v_Set, v_Tp, v_Par, v_For, v_App, v_Mut, v_Ext, v_Put, v_PutB, ex_eqT, ex_eqL, ex_lst, ex_bl, ex_int, if_dec, w_iMap, w_iR1, w_iR2, w_iR3, w_iZ, w_iZE, w_Lc, w_LRg, v_AppPop, w_eJs, w_jsN, w_jsC, q_repL, q_gEnT, q_addT, q_shr, q_and, q_revL, q_revT, q_cat, q_lnL, p_two, q_slL, q_slT, q_add, q_sub, q_mul, q_div, q_mod, q_pow, q_shl, q_lt, q_le, q_gt, q_ge, q_max2, q_min2, q_neg, q_abs, q_intI, q_intB, q_lenT, q_lenL, q_ixT, q_ixL, q_tupL, q_tupT, q_lstL, q_lstT, q_isN, q_gL, q_gT, q_gEnL, q_eq, q_ne, okMod_iff, okAll_iff, okPow_iff, okR_iff, at0, at1, at2, at3, at4, at5, is_int_non, is_int_bl, is_int_int, is_int_str, is_int_tup, is_int_lst, is_bool_non, is_bool_bl, is_bool_int, is_bool_str, is_bool_tup, is_bool_lst, is_str_non, is_str_bl, is_str_int, is_str_str, is_str_tup, is_str_lst, is_tuple_non, is_tuple_bl, is_tuple_int, is_tuple_str, is_tuple_tup, is_tuple_lst, is_list_non, is_list_bl, is_list_int, is_list_str, is_list_tup, is_list_lst, List.map_cons, List.map_nil, List.length_cons, List.length_nil, List.cons_append, List.nil_append, List.replicate_succ, List.replicate_zero, List.getElem?_cons_zero, List.getElem?_cons_succ, List.set_cons_zero, List.set_cons_succ, List.append_nil, bindP, wipeT, setAll, Nat.reduceSub, Nat.reduceAdd, true_and, and_true, if_true, if_false, Bool.not_true, Bool.not_false, eq_self, ite_true, ite_false, reduceIte, ne_eq, not_false_eq_true, not_true_eq_false, false_or, or_false, true_or, or_true, Bool.false_eq_true, q_ixB hb]
  have hmod : ∀ z : Int, 0 ≤ z.fmod many ∧ z.fmod many < many := fun z => by
    rw [fmod_p (by omega)]; exact ⟨Int.emod_nonneg _ (by omega), Int.emod_lt_of_pos _ (by omega)⟩
  split
  · refine ⟨by omega, okDiv_10 (by omega) (by omega), n, 0, _, 0, rfl, rfl, hb, rfl, ?_⟩
    refine p _ _ ⟨_, m, set_get hb, ?_, m0, m1, flat_set hf⟩ (hmod _).1 (hmod _).2
    rw [fdiv_p (by omega)]
    exact Int.ediv_nonneg c0 (by omega)
  · refine take_loop h2 hf hb m0 m1 (by decide) (by decide) (by decide) (by decide) ?_
    intro h' m' number' room' hf' hb' g0 g1 g2
    simp only [w_ok, w_bind, w_of, w_fl, w_ite, w_iteN, ex_ite, ex_some, ex_map, ex_bind, w_C, w_V, w_Bin, w_Un, w_Nil, w_Cons, w_Tup, w_Lst, w_Box, w_Of, w_And, w_Or, w_Not, w_True, w_eAnd, w_eOr, w_eNot, w_If, w_Chain, w_oN, w_oS, w_Sl, w_Call, w_CallB, w_eJoin, w_Rev, ex_str, v_nx, v_rt, v_Skip, v_Seq, v_If, v_Ret, v_Expr, v_Set, v_Tp, v_Par, v_For, v_App, v_Mut, v_Ext, v_Put, v_PutB, ex_eqT, ex_eqL, ex_lst, ex_bl, ex_int, if_dec, w_iMap, w_iR1, w_iR2, w_iR3, w_iZ, w_iZE, w_Lc, w_LRg, v_AppPop, w_eJs, w_jsN, w_jsC, q_repL, q_gEnT, q_addT, q_shr, q_and, q_revL, q_revT, q_cat, q_lnL, p_two, q_slL, q_slT, q_add, q_sub, q_mul, q_div, q_mod, q_pow, q_shl, q_lt, q_le, q_gt, q_ge, q_max2, q_min2, q_neg, q_abs, q_intI, q_intB, q_lenT, q_lenL, q_ixT, q_ixL, q_tupL, q_tupT, q_lstL, q_lstT, q_isN, q_gL, q_gT, q_gEnL, q_eq, q_ne, okMod_iff, okAll_iff, okPow_iff, okR_iff, at0, at1, at2, at3, at4, at5, is_int_non, is_int_bl, is_int_int, is_int_str, is_int_tup, is_int_lst, is_bool_non, is_bool_bl, is_bool_int, is_bool_str, is_bool_tup, is_bool_lst, is_str_non, is_str_bl, is_str_int, is_str_str, is_str_tup, is_str_lst, is_tuple_non, is_tuple_bl, is_tuple_int, is_tuple_str, is_tuple_tup, is_tuple_lst, is_list_non, is_list_bl, is_list_int, is_list_str, is_list_tup, is_list_lst, List.map_cons, List.map_nil, List.length_cons, List.length_nil, List.cons_append, List.nil_append, List.replicate_succ, List.replicate_zero, List.getElem?_cons_zero, List.getElem?_cons_succ, List.set_cons_zero, List.set_cons_succ, List.append_nil, bindP, wipeT, setAll, Nat.reduceSub, Nat.reduceAdd, true_and, and_true, if_true, if_false, Bool.not_true, Bool.not_false, eq_self, ite_true, ite_false, reduceIte, ne_eq, not_false_eq_true, not_true_eq_false, false_or, or_false, true_or, or_true, Bool.false_eq_true]
    exact ⟨by omega, p _ _ ⟨c, m', hb', c0, g0, g1, hf'⟩ (hmod _).1 (hmod _).2⟩
/-! _law_name -/
theorem signs_ok {ts ys : List T} (h : All2 (fun _ y => ∃ c, c < 1114112 ∧ y = T.str ⟨#[c]⟩) ts ys) : ∃ zs : List Str, strsL ys = some zs ∧ zs.length = ts.length ∧ (zs.map (·.length)).sum = zs.length ∧ ∀ z ∈ zs, PyData.strOk z = true := by
  induction h with
  | nil => exact ⟨[], rfl, rfl, rfl, fun z m => by cases m⟩
  | cons q _ ih =>
    obtain ⟨c, hc, rfl⟩ := q
    obtain ⟨zs, h1, h2, h3, h4⟩ := ih
    refine ⟨⟨#[c]⟩ :: zs, ?_, by simp [h2], ?_, fun z m => ?_⟩
    · show (strsL _).map (_ :: ·) = _
      rw [h1]; rfl
    · rw [List.map_cons, List.sum_cons, h3, List.length_cons]
      show 1 + zs.length = zs.length + 1
      omega
    · rcases List.mem_cons.mp m with e | m
      · rw [e]
        show (#[c].all fun x => decide (x < 1114112)) = true
        simp [hc]
      · exact h4 z m
theorem name_spec {n : Nat} {h : IH} (hb : Bag h n) {P : T → IH → Prop} (p : ∀ (z : Str) h', Bag h' n → PyData.strOk z = true → P (.str z) h') : Ok (f__law_name [.box n] h) P := by
  unfold f__law_name
  rw [w_runF]
  refine ⟨rfl, ?_⟩
  simp only [w_ok, w_bind, w_of, w_fl, w_ite, w_iteN, ex_ite, ex_some, ex_map, ex_bind, w_C, w_V, w_Bin, w_Un, w_Nil, w_Cons, w_Tup, w_Lst, w_Box, w_Of, w_And, w_Or, w_Not, w_True, w_eAnd, w_eOr, w_eNot, w_If, w_Chain, w_oN, w_oS, w_Sl, w_Call, w_CallB, w_eJoin, w_Rev, ex_str, v_nx, v_rt, v_Skip, v_Seq, v_If, v_Ret, v_Expr, v_Set, v_Tp, v_Par, v_For, v_App, v_Mut, v_Ext, v_Put, v_PutB, ex_eqT, ex_eqL, ex_lst, ex_bl, ex_int, if_dec, w_iMap, w_iR1, w_iR2, w_iR3, w_iZ, w_iZE, w_Lc, w_LRg, v_AppPop, w_eJs, w_jsN, w_jsC, q_repL, q_gEnT, q_addT, q_shr, q_and, q_revL, q_revT, q_cat, q_lnL, p_two, q_slL, q_slT, q_add, q_sub, q_mul, q_div, q_mod, q_pow, q_shl, q_lt, q_le, q_gt, q_ge, q_max2, q_min2, q_neg, q_abs, q_intI, q_intB, q_lenT, q_lenL, q_ixT, q_ixL, q_tupL, q_tupT, q_lstL, q_lstT, q_isN, q_gL, q_gT, q_gEnL, q_eq, q_ne, okMod_iff, okAll_iff, okPow_iff, okR_iff, at0, at1, at2, at3, at4, at5, is_int_non, is_int_bl, is_int_int, is_int_str, is_int_tup, is_int_lst, is_bool_non, is_bool_bl, is_bool_int, is_bool_str, is_bool_tup, is_bool_lst, is_str_non, is_str_bl, is_str_int, is_str_str, is_str_tup, is_str_lst, is_tuple_non, is_tuple_bl, is_tuple_int, is_tuple_str, is_tuple_tup, is_tuple_lst, is_list_non, is_list_bl, is_list_int, is_list_str, is_list_tup, is_list_lst, List.map_cons, List.map_nil, List.length_cons, List.length_nil, List.cons_append, List.nil_append, List.replicate_succ, List.replicate_zero, List.getElem?_cons_zero, List.getElem?_cons_succ, List.set_cons_zero, List.set_cons_succ, List.append_nil, bindP, wipeT, setAll, Nat.reduceSub, Nat.reduceAdd, true_and, and_true, if_true, if_false, Bool.not_true, Bool.not_false, eq_self, ite_true, ite_false, reduceIte, ne_eq, not_false_eq_true, not_true_eq_false, false_or, or_false, true_or, or_true, Bool.false_eq_true]
  refine take_spec hb (by decide) (by decide) fun d h2 hb2 d0 d1 => ?_
  simp only [w_ok, w_bind, w_of, w_fl, w_ite, w_iteN, ex_ite, ex_some, ex_map, ex_bind, w_C, w_V, w_Bin, w_Un, w_Nil, w_Cons, w_Tup, w_Lst, w_Box, w_Of, w_And, w_Or, w_Not, w_True, w_eAnd, w_eOr, w_eNot, w_If, w_Chain, w_oN, w_oS, w_Sl, w_Call, w_CallB, w_eJoin, w_Rev, ex_str, v_nx, v_rt, v_Skip, v_Seq, v_If, v_Ret, v_Expr, v_Set, v_Tp, v_Par, v_For, v_App, v_Mut, v_Ext, v_Put, v_PutB, ex_eqT, ex_eqL, ex_lst, ex_bl, ex_int, if_dec, w_iMap, w_iR1, w_iR2, w_iR3, w_iZ, w_iZE, w_Lc, w_LRg, v_AppPop, w_eJs, w_jsN, w_jsC, q_repL, q_gEnT, q_addT, q_shr, q_and, q_revL, q_revT, q_cat, q_lnL, p_two, q_slL, q_slT, q_add, q_sub, q_mul, q_div, q_mod, q_pow, q_shl, q_lt, q_le, q_gt, q_ge, q_max2, q_min2, q_neg, q_abs, q_intI, q_intB, q_lenT, q_lenL, q_ixT, q_ixL, q_tupL, q_tupT, q_lstL, q_lstT, q_isN, q_gL, q_gT, q_gEnL, q_eq, q_ne, okMod_iff, okAll_iff, okPow_iff, okR_iff, at0, at1, at2, at3, at4, at5, is_int_non, is_int_bl, is_int_int, is_int_str, is_int_tup, is_int_lst, is_bool_non, is_bool_bl, is_bool_int, is_bool_str, is_bool_tup, is_bool_lst, is_str_non, is_str_bl, is_str_int, is_str_str, is_str_tup, is_str_lst, is_tuple_non, is_tuple_bl, is_tuple_int, is_tuple_str, is_tuple_tup, is_tuple_lst, is_list_non, is_list_bl, is_list_int, is_list_str, is_list_tup, is_list_lst, List.map_cons, List.map_nil, List.length_cons, List.length_nil, List.cons_append, List.nil_append, List.replicate_succ, List.replicate_zero, List.getElem?_cons_zero, List.getElem?_cons_succ, List.set_cons_zero, List.set_cons_succ, List.append_nil, bindP, wipeT, setAll, Nat.reduceSub, Nat.reduceAdd, true_and, and_true, if_true, if_false, Bool.not_true, Bool.not_false, eq_self, ite_true, ite_false, reduceIte, ne_eq, not_false_eq_true, not_true_eq_false, false_or, or_false, true_or, or_true, Bool.false_eq_true]
  refine ⟨⟨by omega, by omega⟩, ?_⟩
  refine (lc_all (fun h => Bag h n) (fun _ y => ∃ c, c < 1114112 ∧ y = T.str ⟨#[c]⟩) hb2 ?_).imp ?_
  · intro t mt h3 hb3
    refine ⟨_, rfl, ?_⟩
    unfold f__law_name_e1
    simp only [w_ok, w_bind, w_of, w_fl, w_ite, w_iteN, ex_ite, ex_some, ex_map, ex_bind, w_C, w_V, w_Bin, w_Un, w_Nil, w_Cons, w_Tup, w_Lst, w_Box, w_Of, w_And, w_Or, w_Not, w_True, w_eAnd, w_eOr, w_eNot, w_If, w_Chain, w_oN, w_oS, w_Sl, w_Call, w_CallB, w_eJoin, w_Rev, ex_str, v_nx, v_rt, v_Skip, v_Seq, v_If, v_Ret, v_Expr, v_Set, v_Tp, v_Par, v_For, v_App, v_Mut, v_Ext, v_Put, v_PutB, ex_eqT, ex_eqL, ex_lst, ex_bl, ex_int, if_dec, w_iMap, w_iR1, w_iR2, w_iR3, w_iZ, w_iZE, w_Lc, w_LRg, v_AppPop, w_eJs, w_jsN, w_jsC, q_repL, q_gEnT, q_addT, q_shr, q_and, q_revL, q_revT, q_cat, q_lnL, p_two, q_slL, q_slT, q_add, q_sub, q_mul, q_div, q_mod, q_pow, q_shl, q_lt, q_le, q_gt, q_ge, q_max2, q_min2, q_neg, q_abs, q_intI, q_intB, q_lenT, q_lenL, q_ixT, q_ixL, q_tupL, q_tupT, q_lstL, q_lstT, q_isN, q_gL, q_gT, q_gEnL, q_eq, q_ne, okMod_iff, okAll_iff, okPow_iff, okR_iff, at0, at1, at2, at3, at4, at5, is_int_non, is_int_bl, is_int_int, is_int_str, is_int_tup, is_int_lst, is_bool_non, is_bool_bl, is_bool_int, is_bool_str, is_bool_tup, is_bool_lst, is_str_non, is_str_bl, is_str_int, is_str_str, is_str_tup, is_str_lst, is_tuple_non, is_tuple_bl, is_tuple_int, is_tuple_str, is_tuple_tup, is_tuple_lst, is_list_non, is_list_bl, is_list_int, is_list_str, is_list_tup, is_list_lst, List.map_cons, List.map_nil, List.length_cons, List.length_nil, List.cons_append, List.nil_append, List.replicate_succ, List.replicate_zero, List.getElem?_cons_zero, List.getElem?_cons_succ, List.set_cons_zero, List.set_cons_succ, List.append_nil, bindP, wipeT, setAll, Nat.reduceSub, Nat.reduceAdd, true_and, and_true, if_true, if_false, Bool.not_true, Bool.not_false, eq_self, ite_true, ite_false, reduceIte, ne_eq, not_false_eq_true, not_true_eq_false, false_or, or_false, true_or, or_true, Bool.false_eq_true]
    refine take_spec hb3 (by decide) (by decide) fun e h4 hb4 e0 e1 => ?_
    have hl : ("abcdefghijklmnopqrstuvwxyz" : Str).cps.toList.length = 26 := by decide +kernel
    have ha : ∀ c ∈ ("abcdefghijklmnopqrstuvwxyz" : Str).cps.toList, c < 1114112 := by decide +kernel
    obtain ⟨c, ec, hc⟩ : ∃ c, atI ("abcdefghijklmnopqrstuvwxyz" : Str).cps.toList e = some c ∧ c < 1114112 := by
      obtain ⟨j, rfl⟩ : ∃ j : Nat, e = j := ⟨e.toNat, by omega⟩
      have hj : j < ("abcdefghijklmnopqrstuvwxyz" : Str).cps.toList.length := by rw [hl]; omega
      exact ⟨_, by rw [at_nat]; exact List.getElem?_eq_getElem hj, ha _ (List.getElem_mem hj)⟩
    simp only [q_ixS, ec]
    refine ⟨_, by rw [if_pos (by decide +kernel)]; rfl, ⟨c, hc, rfl⟩, hb4⟩
  · rintro ys h3 ⟨al, hb3⟩
    obtain ⟨zs, e1, e2, e3, e4⟩ := signs_ok al
    have ql : (rngL 0 (1 + d).toNat 1).length = (1 + d).toNat := by simp [rngL]
    rw [ql] at e2
    exact ⟨by rw [ql]; exact le_line (by omega), _, q_join e1 (by rw [e3, e2]; omega), p _ h3 hb3 (strOk_join e4)⟩
theorem name_spec2 {n : Nat} {h : IH} (hb : Bag h n) {P : T → IH → Prop} (p : ∀ (z : Str) h', Bag h' n → PyData.strOk z = true → z.length ≤ 8 → P (.str z) h') : Ok (f__law_name [.box n] h) P := by
  unfold f__law_name
  rw [w_runF]
  refine ⟨rfl, ?_⟩
  simp only [w_ok, w_bind, w_of, w_fl, w_ite, w_iteN, ex_ite, ex_some, ex_map, ex_bind, w_C, w_V, w_Bin, w_Un, w_Nil, w_Cons, w_Tup, w_Lst, w_Box, w_Of, w_And, w_Or, w_Not, w_True, w_eAnd, w_eOr, w_eNot, w_If, w_Chain, w_oN, w_oS, w_Sl, w_Call, w_CallB, w_eJoin, w_Rev, ex_str, v_nx, v_rt, v_Skip, v_Seq, v_If, v_Ret, v_Expr, v_Set, v_Tp, v_Par, v_For, v_App, v_Mut, v_Ext, v_Put, v_PutB, ex_eqT, ex_eqL, ex_lst, ex_bl, ex_int, if_dec, w_iMap, w_iR1, w_iR2, w_iR3, w_iZ, w_iZE, w_Lc, w_LRg, v_AppPop, w_eJs, w_jsN, w_jsC, q_repL, q_gEnT, q_addT, q_shr, q_and, q_revL, q_revT, q_cat, q_lnL, p_two, q_slL, q_slT, q_add, q_sub, q_mul, q_div, q_mod, q_pow, q_shl, q_lt, q_le, q_gt, q_ge, q_max2, q_min2, q_neg, q_abs, q_intI, q_intB, q_lenT, q_lenL, q_ixT, q_ixL, q_tupL, q_tupT, q_lstL, q_lstT, q_isN, q_gL, q_gT, q_gEnL, q_eq, q_ne, okMod_iff, okAll_iff, okPow_iff, okR_iff, at0, at1, at2, at3, at4, at5, is_int_non, is_int_bl, is_int_int, is_int_str, is_int_tup, is_int_lst, is_bool_non, is_bool_bl, is_bool_int, is_bool_str, is_bool_tup, is_bool_lst, is_str_non, is_str_bl, is_str_int, is_str_str, is_str_tup, is_str_lst, is_tuple_non, is_tuple_bl, is_tuple_int, is_tuple_str, is_tuple_tup, is_tuple_lst, is_list_non, is_list_bl, is_list_int, is_list_str, is_list_tup, is_list_lst, List.map_cons, List.map_nil, List.length_cons, List.length_nil, List.cons_append, List.nil_append, List.replicate_succ, List.replicate_zero, List.getElem?_cons_zero, List.getElem?_cons_succ, List.set_cons_zero, List.set_cons_succ, List.append_nil, bindP, wipeT, setAll, Nat.reduceSub, Nat.reduceAdd, true_and, and_true, if_true, if_false, Bool.not_true, Bool.not_false, eq_self, ite_true, ite_false, reduceIte, ne_eq, not_false_eq_true, not_true_eq_false, false_or, or_false, true_or, or_true, Bool.false_eq_true]
  refine take_spec hb (by decide) (by decide) fun d h2 hb2 d0 d1 => ?_
  simp only [w_ok, w_bind, w_of, w_fl, w_ite, w_iteN, ex_ite, ex_some, ex_map, ex_bind, w_C, w_V, w_Bin, w_Un, w_Nil, w_Cons, w_Tup, w_Lst, w_Box, w_Of, w_And, w_Or, w_Not, w_True, w_eAnd, w_eOr, w_eNot, w_If, w_Chain, w_oN, w_oS, w_Sl, w_Call, w_CallB, w_eJoin, w_Rev, ex_str, v_nx, v_rt, v_Skip, v_Seq, v_If, v_Ret, v_Expr, v_Set, v_Tp, v_Par, v_For, v_App, v_Mut, v_Ext, v_Put, v_PutB, ex_eqT, ex_eqL, ex_lst, ex_bl, ex_int, if_dec, w_iMap, w_iR1, w_iR2, w_iR3, w_iZ, w_iZE, w_Lc, w_LRg, v_AppPop, w_eJs, w_jsN, w_jsC, q_repL, q_gEnT, q_addT, q_shr, q_and, q_revL, q_revT, q_cat, q_lnL, p_two, q_slL, q_slT, q_add, q_sub, q_mul, q_div, q_mod, q_pow, q_shl, q_lt, q_le, q_gt, q_ge, q_max2, q_min2, q_neg, q_abs, q_intI, q_intB, q_lenT, q_lenL, q_ixT, q_ixL, q_tupL, q_tupT, q_lstL, q_lstT, q_isN, q_gL, q_gT, q_gEnL, q_eq, q_ne, okMod_iff, okAll_iff, okPow_iff, okR_iff, at0, at1, at2, at3, at4, at5, is_int_non, is_int_bl, is_int_int, is_int_str, is_int_tup, is_int_lst, is_bool_non, is_bool_bl, is_bool_int, is_bool_str, is_bool_tup, is_bool_lst, is_str_non, is_str_bl, is_str_int, is_str_str, is_str_tup, is_str_lst, is_tuple_non, is_tuple_bl, is_tuple_int, is_tuple_str, is_tuple_tup, is_tuple_lst, is_list_non, is_list_bl, is_list_int, is_list_str, is_list_tup, is_list_lst, List.map_cons, List.map_nil, List.length_cons, List.length_nil, List.cons_append, List.nil_append, List.replicate_succ, List.replicate_zero, List.getElem?_cons_zero, List.getElem?_cons_succ, List.set_cons_zero, List.set_cons_succ, List.append_nil, bindP, wipeT, setAll, Nat.reduceSub, Nat.reduceAdd, true_and, and_true, if_true, if_false, Bool.not_true, Bool.not_false, eq_self, ite_true, ite_false, reduceIte, ne_eq, not_false_eq_true, not_true_eq_false, false_or, or_false, true_or, or_true, Bool.false_eq_true]
  refine ⟨⟨by omega, by omega⟩, ?_⟩
  refine (lc_all (fun h => Bag h n) (fun _ y => ∃ c, c < 1114112 ∧ y = T.str ⟨#[c]⟩) hb2 ?_).imp ?_
  · intro t mt h3 hb3
    refine ⟨_, rfl, ?_⟩
    unfold f__law_name_e1
    simp only [w_ok, w_bind, w_of, w_fl, w_ite, w_iteN, ex_ite, ex_some, ex_map, ex_bind, w_C, w_V, w_Bin, w_Un, w_Nil, w_Cons, w_Tup, w_Lst, w_Box, w_Of, w_And, w_Or, w_Not, w_True, w_eAnd, w_eOr, w_eNot, w_If, w_Chain, w_oN, w_oS, w_Sl, w_Call, w_CallB, w_eJoin, w_Rev, ex_str, v_nx, v_rt, v_Skip, v_Seq, v_If, v_Ret, v_Expr, v_Set, v_Tp, v_Par, v_For, v_App, v_Mut, v_Ext, v_Put, v_PutB, ex_eqT, ex_eqL, ex_lst, ex_bl, ex_int, if_dec, w_iMap, w_iR1, w_iR2, w_iR3, w_iZ, w_iZE, w_Lc, w_LRg, v_AppPop, w_eJs, w_jsN, w_jsC, q_repL, q_gEnT, q_addT, q_shr, q_and, q_revL, q_revT, q_cat, q_lnL, p_two, q_slL, q_slT, q_add, q_sub, q_mul, q_div, q_mod, q_pow, q_shl, q_lt, q_le, q_gt, q_ge, q_max2, q_min2, q_neg, q_abs, q_intI, q_intB, q_lenT, q_lenL, q_ixT, q_ixL, q_tupL, q_tupT, q_lstL, q_lstT, q_isN, q_gL, q_gT, q_gEnL, q_eq, q_ne, okMod_iff, okAll_iff, okPow_iff, okR_iff, at0, at1, at2, at3, at4, at5, is_int_non, is_int_bl, is_int_int, is_int_str, is_int_tup, is_int_lst, is_bool_non, is_bool_bl, is_bool_int, is_bool_str, is_bool_tup, is_bool_lst, is_str_non, is_str_bl, is_str_int, is_str_str, is_str_tup, is_str_lst, is_tuple_non, is_tuple_bl, is_tuple_int, is_tuple_str, is_tuple_tup, is_tuple_lst, is_list_non, is_list_bl, is_list_int, is_list_str, is_list_tup, is_list_lst, List.map_cons, List.map_nil, List.length_cons, List.length_nil, List.cons_append, List.nil_append, List.replicate_succ, List.replicate_zero, List.getElem?_cons_zero, List.getElem?_cons_succ, List.set_cons_zero, List.set_cons_succ, List.append_nil, bindP, wipeT, setAll, Nat.reduceSub, Nat.reduceAdd, true_and, and_true, if_true, if_false, Bool.not_true, Bool.not_false, eq_self, ite_true, ite_false, reduceIte, ne_eq, not_false_eq_true, not_true_eq_false, false_or, or_false, true_or, or_true, Bool.false_eq_true]
    refine take_spec hb3 (by decide) (by decide) fun e h4 hb4 e0 e1 => ?_
    have hl : ("abcdefghijklmnopqrstuvwxyz" : Str).cps.toList.length = 26 := by decide +kernel
    have ha : ∀ c ∈ ("abcdefghijklmnopqrstuvwxyz" : Str).cps.toList, c < 1114112 := by decide +kernel
    obtain ⟨c, ec, hc⟩ : ∃ c, atI ("abcdefghijklmnopqrstuvwxyz" : Str).cps.toList e = some c ∧ c < 1114112 := by
      obtain ⟨j, rfl⟩ : ∃ j : Nat, e = j := ⟨e.toNat, by omega⟩
      have hj : j < ("abcdefghijklmnopqrstuvwxyz" : Str).cps.toList.length := by rw [hl]; omega
      exact ⟨_, by rw [at_nat]; exact List.getElem?_eq_getElem hj, ha _ (List.getElem_mem hj)⟩
    simp only [q_ixS, ec]
    refine ⟨_, by rw [if_pos (by decide +kernel)]; rfl, ⟨c, hc, rfl⟩, hb4⟩
  · rintro ys h3 ⟨al, hb3⟩
    obtain ⟨zs, e1, e2, e3, e4⟩ := signs_ok al
    have ql : (rngL 0 (1 + d).toNat 1).length = (1 + d).toNat := by simp [rngL]
    rw [ql] at e2
    exact ⟨by rw [ql]; exact le_line (by omega), _, q_join e1 (by rw [e3, e2]; omega), p _ h3 hb3 (strOk_join e4) (by
      have l := join_len (s := "") (zs := zs)
      have l0 : ("" : Str).length = 0 := rfl
      rw [l0, Nat.mul_zero] at l
      omega)⟩
/-! _law_item -/
theorem item_spec {n : Nat} {ax : Nat} {h : IH} (hb : Bag h n) (a2 : 2 ≤ ax) (a3 : ax ≤ 3) {P : T → IH → Prop} (p : ∀ (i : Itm) h', Bag h' n → OkI ax i → (isL i = false → shT 1 (itT i) = true) → P (itT i) h') : Ok (f__law_item [.box n, .int (ax : Int)] h) P := by
  have hs : (100000 : Nat) ≤ sizeLine := by decide
  unfold f__law_item
  rw [w_runF]
  refine ⟨rfl, ?_⟩
  simp only [w_ok, w_bind, w_of, w_fl, w_ite, w_iteN, ex_ite, ex_some, ex_map, ex_bind, w_C, w_V, w_Bin, w_Un, w_Nil, w_Cons, w_Tup, w_Lst, w_Box, w_Of, w_And, w_Or, w_Not, w_True, w_eAnd, w_eOr, w_eNot, w_If, w_Chain, w_oN, w_oS, w_Sl, w_Call, w_CallB, w_eJoin, w_Rev, ex_str, v_nx, v_rt, v_Skip, v_Seq, v_If, v_Ret, v_Expr, v_Set, v_Tp, v_Par, v_For, v_App, v_Mut, v_Ext, v_Put, v_PutB, ex_eqT, ex_eqL, ex_lst, ex_bl, ex_int, if_dec, w_iMap, w_iR1, w_iR2, w_iR3, w_iZ, w_iZE, w_Lc, w_LRg, v_AppPop, w_eJs, w_jsN, w_jsC, q_repL, q_gEnT, q_addT, q_shr, q_and, q_revL, q_revT, q_cat, q_lnL, p_two, q_slL, q_slT, q_add, q_sub, q_mul, q_div, q_mod, q_pow, q_shl, q_lt, q_le, q_gt, q_ge, q_max2, q_min2, q_neg, q_abs, q_intI, q_intB, q_lenT, q_lenL, q_ixT, q_ixL, q_tupL, q_tupT, q_lstL, q_lstT, q_isN, q_gL, q_gT, q_gEnL, q_eq, q_ne, okMod_iff, okAll_iff, okPow_iff, okR_iff, at0, at1, at2, at3, at4, at5, is_int_non, is_int_bl, is_int_int, is_int_str, is_int_tup, is_int_lst, is_bool_non, is_bool_bl, is_bool_int, is_bool_str, is_bool_tup, is_bool_lst, is_str_non, is_str_bl, is_str_int, is_str_str, is_str_tup, is_str_lst, is_tuple_non, is_tuple_bl, is_tuple_int, is_tuple_str, is_tuple_tup, is_tuple_lst, is_list_non, is_list_bl, is_list_int, is_list_str, is_list_tup, is_list_lst, List.map_cons, List.map_nil, List.length_cons, List.length_nil, List.cons_append, List.nil_append, List.replicate_succ, List.replicate_zero, List.getElem?_cons_zero, List.getElem?_cons_succ, List.set_cons_zero, List.set_cons_succ, List.append_nil, bindP, wipeT, setAll, Nat.reduceSub, Nat.reduceAdd, true_and, and_true, if_true, if_false, Bool.not_true, Bool.not_false, eq_self, ite_true, ite_false, reduceIte, ne_eq, not_false_eq_true, not_true_eq_false, false_or, or_false, true_or, or_true, Bool.false_eq_true]
  refine take_spec hb (by decide) (by decide) fun k h1 hb1 k0 k1 => ?_
  unfold f__law_item_r7
  simp only [v_Seq, v_If, w_ok, w_bind, w_of, w_fl, w_ite, w_iteN, ex_ite, ex_some, ex_map, ex_bind, w_C, w_V, w_Bin, w_Un, w_Nil, w_Cons, w_Tup, w_Lst, w_Box, w_Of, w_And, w_Or, w_Not, w_True, w_eAnd, w_eOr, w_eNot, w_If, w_Chain, w_oN, w_oS, w_Sl, w_Call, w_CallB, w_eJoin, w_Rev, ex_str, v_nx, v_rt, v_Skip, v_Seq, v_If, v_Ret, v_Expr, v_Set, v_Tp, v_Par, v_For, v_App, v_Mut, v_Ext, v_Put, v_PutB, ex_eqT, ex_eqL, ex_lst, ex_bl, ex_int, if_dec, w_iMap, w_iR1, w_iR2, w_iR3, w_iZ, w_iZE, w_Lc, w_LRg, v_AppPop, w_eJs, w_jsN, w_jsC, q_repL, q_gEnT, q_addT, q_shr, q_and, q_revL, q_revT, q_cat, q_lnL, p_two, q_slL, q_slT, q_add, q_sub, q_mul, q_div, q_mod, q_pow, q_shl, q_lt, q_le, q_gt, q_ge, q_max2, q_min2, q_neg, q_abs, q_intI, q_intB, q_lenT, q_lenL, q_ixT, q_ixL, q_tupL, q_tupT, q_lstL, q_lstT, q_isN, q_gL, q_gT, q_gEnL, q_eq, q_ne, okMod_iff, okAll_iff, okPow_iff, okR_iff, at0, at1, at2, at3, at4, at5, is_int_non, is_int_bl, is_int_int, is_int_str, is_int_tup, is_int_lst, is_bool_non, is_bool_bl, is_bool_int, is_bool_str, is_bool_tup, is_bool_lst, is_str_non, is_str_bl, is_str_int, is_str_str, is_str_tup, is_str_lst, is_tuple_non, is_tuple_bl, is_tuple_int, is_tuple_str, is_tuple_tup, is_tuple_lst, is_list_non, is_list_bl, is_list_int, is_list_str, is_list_tup, is_list_lst, List.map_cons, List.map_nil, List.length_cons, List.length_nil, List.cons_append, List.nil_append, List.replicate_succ, List.replicate_zero, List.getElem?_cons_zero, List.getElem?_cons_succ, List.set_cons_zero, List.set_cons_succ, List.append_nil, bindP, wipeT, setAll, Nat.reduceSub, Nat.reduceAdd, true_and, and_true, if_true, if_false, Bool.not_true, Bool.not_false, eq_self, ite_true, ite_false, reduceIte, ne_eq, not_false_eq_true, not_true_eq_false, false_or, or_false, true_or, or_true, Bool.false_eq_true]
  split
  · refine take_spec hb1 (by decide) (by decide) fun d h2 hb2 d0 d1 => ?_
    simp only [w_ok, w_bind, w_of, w_fl, w_ite, w_iteN, ex_ite, ex_some, ex_map, ex_bind, w_C, w_V, w_Bin, w_Un, w_Nil, w_Cons, w_Tup, w_Lst, w_Box, w_Of, w_And, w_Or, w_Not, w_True, w_eAnd, w_eOr, w_eNot, w_If, w_Chain, w_oN, w_oS, w_Sl, w_Call, w_CallB, w_eJoin, w_Rev, ex_str, v_nx, v_rt, v_Skip, v_Seq, v_If, v_Ret, v_Expr, v_Set, v_Tp, v_Par, v_For, v_App, v_Mut, v_Ext, v_Put, v_PutB, ex_eqT, ex_eqL, ex_lst, ex_bl, ex_int, if_dec, w_iMap, w_iR1, w_iR2, w_iR3, w_iZ, w_iZE, w_Lc, w_LRg, v_AppPop, w_eJs, w_jsN, w_jsC, q_repL, q_gEnT, q_addT, q_shr, q_and, q_revL, q_revT, q_cat, q_lnL, p_two, q_slL, q_slT, q_add, q_sub, q_mul, q_div, q_mod, q_pow, q_shl, q_lt, q_le, q_gt, q_ge, q_max2, q_min2, q_neg, q_abs, q_intI, q_intB, q_lenT, q_lenL, q_ixT, q_ixL, q_tupL, q_tupT, q_lstL, q_lstT, q_isN, q_gL, q_gT, q_gEnL, q_eq, q_ne, okMod_iff, okAll_iff, okPow_iff, okR_iff, at0, at1, at2, at3, at4, at5, is_int_non, is_int_bl, is_int_int, is_int_str, is_int_tup, is_int_lst, is_bool_non, is_bool_bl, is_bool_int, is_bool_str, is_bool_tup, is_bool_lst, is_str_non, is_str_bl, is_str_int, is_str_str, is_str_tup, is_str_lst, is_tuple_non, is_tuple_bl, is_tuple_int, is_tuple_str, is_tuple_tup, is_tuple_lst, is_list_non, is_list_bl, is_list_int, is_list_str, is_list_tup, is_list_lst, List.map_cons, List.map_nil, List.length_cons, List.length_nil, List.cons_append, List.nil_append, List.replicate_succ, List.replicate_zero, List.getElem?_cons_zero, List.getElem?_cons_succ, List.set_cons_zero, List.set_cons_succ, List.append_nil, bindP, wipeT, setAll, Nat.reduceSub, Nat.reduceAdd, true_and, and_true, if_true, if_false, Bool.not_true, Bool.not_false, eq_self, ite_true, ite_false, reduceIte, ne_eq, not_false_eq_true, not_true_eq_false, false_or, or_false, true_or, or_true, Bool.false_eq_true]
    exact ⟨two_line, p (.wait (1 + d)) h2 hb2 trivial fun _ => (by show (shT 0 (.str "wait") && (shT 0 (.int (1 + d)) && true)) = true; rw [show shT 0 (.str "wait") = true by decide +kernel]; rfl)⟩
  unfold f__law_item_r6
  simp only [v_Seq, v_If, w_ok, w_bind, w_of, w_fl, w_ite, w_iteN, ex_ite, ex_some, ex_map, ex_bind, w_C, w_V, w_Bin, w_Un, w_Nil, w_Cons, w_Tup, w_Lst, w_Box, w_Of, w_And, w_Or, w_Not, w_True, w_eAnd, w_eOr, w_eNot, w_If, w_Chain, w_oN, w_oS, w_Sl, w_Call, w_CallB, w_eJoin, w_Rev, ex_str, v_nx, v_rt, v_Skip, v_Seq, v_If, v_Ret, v_Expr, v_Set, v_Tp, v_Par, v_For, v_App, v_Mut, v_Ext, v_Put, v_PutB, ex_eqT, ex_eqL, ex_lst, ex_bl, ex_int, if_dec, w_iMap, w_iR1, w_iR2, w_iR3, w_iZ, w_iZE, w_Lc, w_LRg, v_AppPop, w_eJs, w_jsN, w_jsC, q_repL, q_gEnT, q_addT, q_shr, q_and, q_revL, q_revT, q_cat, q_lnL, p_two, q_slL, q_slT, q_add, q_sub, q_mul, q_div, q_mod, q_pow, q_shl, q_lt, q_le, q_gt, q_ge, q_max2, q_min2, q_neg, q_abs, q_intI, q_intB, q_lenT, q_lenL, q_ixT, q_ixL, q_tupL, q_tupT, q_lstL, q_lstT, q_isN, q_gL, q_gT, q_gEnL, q_eq, q_ne, okMod_iff, okAll_iff, okPow_iff, okR_iff, at0, at1, at2, at3, at4, at5, is_int_non, is_int_bl, is_int_int, is_int_str, is_int_tup, is_int_lst, is_bool_non, is_bool_bl, is_bool_int, is_bool_str, is_bool_tup, is_bool_lst, is_str_non, is_str_bl, is_str_int, is_str_str, is_str_tup, is_str_lst, is_tuple_non, is_tuple_bl, is_tuple_int, is_tuple_str, is_tuple_tup, is_tuple_lst, is_list_non, is_list_bl, is_list_int, is_list_str, is_list_tup, is_list_lst, List.map_cons, List.map_nil, List.length_cons, List.length_nil, List.cons_append, List.nil_append, List.replicate_succ, List.replicate_zero, List.getElem?_cons_zero, List.getElem?_cons_succ, List.set_cons_zero, List.set_cons_succ, List.append_nil, bindP, wipeT, setAll, Nat.reduceSub, Nat.reduceAdd, true_and, and_true, if_true, if_false, Bool.not_true, Bool.not_false, eq_self, ite_true, ite_false, reduceIte, ne_eq, not_false_eq_true, not_true_eq_false, false_or, or_false, true_or, or_true, Bool.false_eq_true]
  split
  · refine ⟨two_line, take_spec hb1 (by decide) (by decide) fun d h2 hb2 d0 d1 => ?_⟩
    rcases (by omega : d = 0 ∨ d = 1) with rfl | rfl
    · simp only [w_ok, w_bind, w_of, w_fl, w_ite, w_iteN, ex_ite, ex_some, ex_map, ex_bind, w_C, w_V, w_Bin, w_Un, w_Nil, w_Cons, w_Tup, w_Lst, w_Box, w_Of, w_And, w_Or, w_Not, w_True, w_eAnd, w_eOr, w_eNot, w_If, w_Chain, w_oN, w_oS, w_Sl, w_Call, w_CallB, w_eJoin, w_Rev, ex_str, v_nx, v_rt, v_Skip, v_Seq, v_If, v_Ret, v_Expr, v_Set, v_Tp, v_Par, v_For, v_App, v_Mut, v_Ext, v_Put, v_PutB, ex_eqT, ex_eqL, ex_lst, ex_bl, ex_int, if_dec, w_iMap, w_iR1, w_iR2, w_iR3, w_iZ, w_iZE, w_Lc, w_LRg, v_AppPop, w_eJs, w_jsN, w_jsC, q_repL, q_gEnT, q_addT, q_shr, q_and, q_revL, q_revT, q_cat, q_lnL, p_two, q_slL, q_slT, q_add, q_sub, q_mul, q_div, q_mod, q_pow, q_shl, q_lt, q_le, q_gt, q_ge, q_max2, q_min2, q_neg, q_abs, q_intI, q_intB, q_lenT, q_lenL, q_ixT, q_ixL, q_tupL, q_tupT, q_lstL, q_lstT, q_isN, q_gL, q_gT, q_gEnL, q_eq, q_ne, okMod_iff, okAll_iff, okPow_iff, okR_iff, at0, at1, at2, at3, at4, at5, is_int_non, is_int_bl, is_int_int, is_int_str, is_int_tup, is_int_lst, is_bool_non, is_bool_bl, is_bool_int, is_bool_str, is_bool_tup, is_bool_lst, is_str_non, is_str_bl, is_str_int, is_str_str, is_str_tup, is_str_lst, is_tuple_non, is_tuple_bl, is_tuple_int, is_tuple_str, is_tuple_tup, is_tuple_lst, is_list_non, is_list_bl, is_list_int, is_list_str, is_list_tup, is_list_lst, List.map_cons, List.map_nil, List.length_cons, List.length_nil, List.cons_append, List.nil_append, List.replicate_succ, List.replicate_zero, List.getElem?_cons_zero, List.getElem?_cons_succ, List.set_cons_zero, List.set_cons_succ, List.append_nil, bindP, wipeT, setAll, Nat.reduceSub, Nat.reduceAdd, true_and, and_true, if_true, if_false, Bool.not_true, Bool.not_false, eq_self, ite_true, ite_false, reduceIte, ne_eq, not_false_eq_true, not_true_eq_false, false_or, or_false, true_or, or_true, Bool.false_eq_true]
      exact ⟨two_line, p (.tool true) h2 hb2 trivial fun _ => (by decide +kernel)⟩
    · simp only [w_ok, w_bind, w_of, w_fl, w_ite, w_iteN, ex_ite, ex_some, ex_map, ex_bind, w_C, w_V, w_Bin, w_Un, w_Nil, w_Cons, w_Tup, w_Lst, w_Box, w_Of, w_And, w_Or, w_Not, w_True, w_eAnd, w_eOr, w_eNot, w_If, w_Chain, w_oN, w_oS, w_Sl, w_Call, w_CallB, w_eJoin, w_Rev, ex_str, v_nx, v_rt, v_Skip, v_Seq, v_If, v_Ret, v_Expr, v_Set, v_Tp, v_Par, v_For, v_App, v_Mut, v_Ext, v_Put, v_PutB, ex_eqT, ex_eqL, ex_lst, ex_bl, ex_int, if_dec, w_iMap, w_iR1, w_iR2, w_iR3, w_iZ, w_iZE, w_Lc, w_LRg, v_AppPop, w_eJs, w_jsN, w_jsC, q_repL, q_gEnT, q_addT, q_shr, q_and, q_revL, q_revT, q_cat, q_lnL, p_two, q_slL, q_slT, q_add, q_sub, q_mul, q_div, q_mod, q_pow, q_shl, q_lt, q_le, q_gt, q_ge, q_max2, q_min2, q_neg, q_abs, q_intI, q_intB, q_lenT, q_lenL, q_ixT, q_ixL, q_tupL, q_tupT, q_lstL, q_lstT, q_isN, q_gL, q_gT, q_gEnL, q_eq, q_ne, okMod_iff, okAll_iff, okPow_iff, okR_iff, at0, at1, at2, at3, at4, at5, is_int_non, is_int_bl, is_int_int, is_int_str, is_int_tup, is_int_lst, is_bool_non, is_bool_bl, is_bool_int, is_bool_str, is_bool_tup, is_bool_lst, is_str_non, is_str_bl, is_str_int, is_str_str, is_str_tup, is_str_lst, is_tuple_non, is_tuple_bl, is_tuple_int, is_tuple_str, is_tuple_tup, is_tuple_lst, is_list_non, is_list_bl, is_list_int, is_list_str, is_list_tup, is_list_lst, List.map_cons, List.map_nil, List.length_cons, List.length_nil, List.cons_append, List.nil_append, List.replicate_succ, List.replicate_zero, List.getElem?_cons_zero, List.getElem?_cons_succ, List.set_cons_zero, List.set_cons_succ, List.append_nil, bindP, wipeT, setAll, Nat.reduceSub, Nat.reduceAdd, true_and, and_true, if_true, if_false, Bool.not_true, Bool.not_false, eq_self, ite_true, ite_false, reduceIte, ne_eq, not_false_eq_true, not_true_eq_false, false_or, or_false, true_or, or_true, Bool.false_eq_true]
      exact ⟨two_line, p (.tool false) h2 hb2 trivial fun _ => (by decide +kernel)⟩
  unfold f__law_item_r5
  simp only [v_Seq, v_If, w_ok, w_bind, w_of, w_fl, w_ite, w_iteN, ex_ite, ex_some, ex_map, ex_bind, w_C, w_V, w_Bin, w_Un, w_Nil, w_Cons, w_Tup, w_Lst, w_Box, w_Of, w_And, w_Or, w_Not, w_True, w_eAnd, w_eOr, w_eNot, w_If, w_Chain, w_oN, w_oS, w_Sl, w_Call, w_CallB, w_eJoin, w_Rev, ex_str, v_nx, v_rt, v_Skip, v_Seq, v_If, v_Ret, v_Expr, v_Set, v_Tp, v_Par, v_For, v_App, v_Mut, v_Ext, v_Put, v_PutB, ex_eqT, ex_eqL, ex_lst, ex_bl, ex_int, if_dec, w_iMap, w_iR1, w_iR2, w_iR3, w_iZ, w_iZE, w_Lc, w_LRg, v_AppPop, w_eJs, w_jsN, w_jsC, q_repL, q_gEnT, q_addT, q_shr, q_and, q_revL, q_revT, q_cat, q_lnL, p_two, q_slL, q_slT, q_add, q_sub, q_mul, q_div, q_mod, q_pow, q_shl, q_lt, q_le, q_gt, q_ge, q_max2, q_min2, q_neg, q_abs, q_intI, q_intB, q_lenT, q_lenL, q_ixT, q_ixL, q_tupL, q_tupT, q_lstL, q_lstT, q_isN, q_gL, q_gT, q_gEnL, q_eq, q_ne, okMod_iff, okAll_iff, okPow_iff, okR_iff, at0, at1, at2, at3, at4, at5, is_int_non, is_int_bl, is_int_int, is_int_str, is_int_tup, is_int_lst, is_bool_non, is_bool_bl, is_bool_int, is_bool_str, is_bool_tup, is_bool_lst, is_str_non, is_str_bl, is_str_int, is_str_str, is_str_tup, is_str_lst, is_tuple_non, is_tuple_bl, is_tuple_int, is_tuple_str, is_tuple_tup, is_tuple_lst, is_list_non, is_list_bl, is_list_int, is_list_str, is_list_tup, is_list_lst, List.map_cons, List.map_nil, List.length_cons, List.length_nil, List.cons_append, List.nil_append, List.replicate_succ, List.replicate_zero, List.getElem?_cons_zero, List.getElem?_cons_succ, List.set_cons_zero, List.set_cons_succ, List.append_nil, bindP, wipeT, setAll, Nat.reduceSub, Nat.reduceAdd, true_and, and_true, if_true, if_false, Bool.not_true, Bool.not_false, eq_self, ite_true, ite_false, reduceIte, ne_eq, not_false_eq_true, not_true_eq_false, false_or, or_false, true_or, or_true, Bool.false_eq_true]
  split
  · refine name_spec hb1 fun z h2 hb2 oz => ?_
    try simp only [w_ok, w_bind, w_of, w_fl, w_ite, w_iteN, ex_ite, ex_some, ex_map, ex_bind, w_C, w_V, w_Bin, w_Un, w_Nil, w_Cons, w_Tup, w_Lst, w_Box, w_Of, w_And, w_Or, w_Not, w_True, w_eAnd, w_eOr, w_eNot, w_If, w_Chain, w_oN, w_oS, w_Sl, w_Call, w_CallB, w_eJoin, w_Rev, ex_str, v_nx, v_rt, v_Skip, v_Seq, v_If, v_Ret, v_Expr, v_Set, v_Tp, v_Par, v_For, v_App, v_Mut, v_Ext, v_Put, v_PutB, ex_eqT, ex_eqL, ex_lst, ex_bl, ex_int, if_dec, w_iMap, w_iR1, w_iR2, w_iR3, w_iZ, w_iZE, w_Lc, w_LRg, v_AppPop, w_eJs, w_jsN, w_jsC, q_repL, q_gEnT, q_addT, q_shr, q_and, q_revL, q_revT, q_cat, q_lnL, p_two, q_slL, q_slT, q_add, q_sub, q_mul, q_div, q_mod, q_pow, q_shl, q_lt, q_le, q_gt, q_ge, q_max2, q_min2, q_neg, q_abs, q_intI, q_intB, q_lenT, q_lenL, q_ixT, q_ixL, q_tupL, q_tupT, q_lstL, q_lstT, q_isN, q_gL, q_gT, q_gEnL, q_eq, q_ne, okMod_iff, okAll_iff, okPow_iff, okR_iff, at0, at1, at2, at3, at4, at5, is_int_non, is_int_bl, is_int_int, is_int_str, is_int_tup, is_int_lst, is_bool_non, is_bool_bl, is_bool_int, is_bool_str, is_bool_tup, is_bool_lst, is_str_non, is_str_bl, is_str_int, is_str_str, is_str_tup, is_str_lst, is_tuple_non, is_tuple_bl, is_tuple_int, is_tuple_str, is_tuple_tup, is_tuple_lst, is_list_non, is_list_bl, is_list_int, is_list_str, is_list_tup, is_list_lst, List.map_cons, List.map_nil, List.length_cons, List.length_nil, List.cons_append, List.nil_append, List.replicate_succ, List.replicate_zero, List.getElem?_cons_zero, List.getElem?_cons_succ, List.set_cons_zero, List.set_cons_succ, List.append_nil, bindP, wipeT, setAll, Nat.reduceSub, Nat.reduceAdd, true_and, and_true, if_true, if_false, Bool.not_true, Bool.not_false, eq_self, ite_true, ite_false, reduceIte, ne_eq, not_false_eq_true, not_true_eq_false, false_or, or_false, true_or, or_true, Bool.false_eq_true]
    refine ⟨two_line, p (.mark z) h2 hb2 trivial fun _ => ?_⟩
    have m : shT 0 (.str "mark") = true := by decide +kernel
    have oz : shT 0 (.str z) = true := oz
    show (shT 0 (.str "mark") && (shT 0 (.str z) && true)) = true
    rw [m, oz]; rfl
  unfold f__law_item_r4
  simp only [v_Seq, v_If, w_ok, w_bind, w_of, w_fl, w_ite, w_iteN, ex_ite, ex_some, ex_map, ex_bind, w_C, w_V, w_Bin, w_Un, w_Nil, w_Cons, w_Tup, w_Lst, w_Box, w_Of, w_And, w_Or, w_Not, w_True, w_eAnd, w_eOr, w_eNot, w_If, w_Chain, w_oN, w_oS, w_Sl, w_Call, w_CallB, w_eJoin, w_Rev, ex_str, v_nx, v_rt, v_Skip, v_Seq, v_If, v_Ret, v_Expr, v_Set, v_Tp, v_Par, v_For, v_App, v_Mut, v_Ext, v_Put, v_PutB, ex_eqT, ex_eqL, ex_lst, ex_bl, ex_int, if_dec, w_iMap, w_iR1, w_iR2, w_iR3, w_iZ, w_iZE, w_Lc, w_LRg, v_AppPop, w_eJs, w_jsN, w_jsC, q_repL, q_gEnT, q_addT, q_shr, q_and, q_revL, q_revT, q_cat, q_lnL, p_two, q_slL, q_slT, q_add, q_sub, q_mul, q_div, q_mod, q_pow, q_shl, q_lt, q_le, q_gt, q_ge, q_max2, q_min2, q_neg, q_abs, q_intI, q_intB, q_lenT, q_lenL, q_ixT, q_ixL, q_tupL, q_tupT, q_lstL, q_lstT, q_isN, q_gL, q_gT, q_gEnL, q_eq, q_ne, okMod_iff, okAll_iff, okPow_iff, okR_iff, at0, at1, at2, at3, at4, at5, is_int_non, is_int_bl, is_int_int, is_int_str, is_int_tup, is_int_lst, is_bool_non, is_bool_bl, is_bool_int, is_bool_str, is_bool_tup, is_bool_lst, is_str_non, is_str_bl, is_str_int, is_str_str, is_str_tup, is_str_lst, is_tuple_non, is_tuple_bl, is_tuple_int, is_tuple_str, is_tuple_tup, is_tuple_lst, is_list_non, is_list_bl, is_list_int, is_list_str, is_list_tup, is_list_lst, List.map_cons, List.map_nil, List.length_cons, List.length_nil, List.cons_append, List.nil_append, List.replicate_succ, List.replicate_zero, List.getElem?_cons_zero, List.getElem?_cons_succ, List.set_cons_zero, List.set_cons_succ, List.append_nil, bindP, wipeT, setAll, Nat.reduceSub, Nat.reduceAdd, true_and, and_true, if_true, if_false, Bool.not_true, Bool.not_false, eq_self, ite_true, ite_false, reduceIte, ne_eq, not_false_eq_true, not_true_eq_false, false_or, or_false, true_or, or_true, Bool.false_eq_true]
  refine take_spec hb1 (by decide) (by decide) fun s h2 hb2 s0 s1 => ?_
  simp only [w_ok, w_bind, w_of, w_fl, w_ite, w_iteN, ex_ite, ex_some, ex_map, ex_bind, w_C, w_V, w_Bin, w_Un, w_Nil, w_Cons, w_Tup, w_Lst, w_Box, w_Of, w_And, w_Or, w_Not, w_True, w_eAnd, w_eOr, w_eNot, w_If, w_Chain, w_oN, w_oS, w_Sl, w_Call, w_CallB, w_eJoin, w_Rev, ex_str, v_nx, v_rt, v_Skip, v_Seq, v_If, v_Ret, v_Expr, v_Set, v_Tp, v_Par, v_For, v_App, v_Mut, v_Ext, v_Put, v_PutB, ex_eqT, ex_eqL, ex_lst, ex_bl, ex_int, if_dec, w_iMap, w_iR1, w_iR2, w_iR3, w_iZ, w_iZE, w_Lc, w_LRg, v_AppPop, w_eJs, w_jsN, w_jsC, q_repL, q_gEnT, q_addT, q_shr, q_and, q_revL, q_revT, q_cat, q_lnL, p_two, q_slL, q_slT, q_add, q_sub, q_mul, q_div, q_mod, q_pow, q_shl, q_lt, q_le, q_gt, q_ge, q_max2, q_min2, q_neg, q_abs, q_intI, q_intB, q_lenT, q_lenL, q_ixT, q_ixL, q_tupL, q_tupT, q_lstL, q_lstT, q_isN, q_gL, q_gT, q_gEnL, q_eq, q_ne, okMod_iff, okAll_iff, okPow_iff, okR_iff, at0, at1, at2, at3, at4, at5, is_int_non, is_int_bl, is_int_int, is_int_str, is_int_tup, is_int_lst, is_bool_non, is_bool_bl, is_bool_int, is_bool_str, is_bool_tup, is_bool_lst, is_str_non, is_str_bl, is_str_int, is_str_str, is_str_tup, is_str_lst, is_tuple_non, is_tuple_bl, is_tuple_int, is_tuple_str, is_tuple_tup, is_tuple_lst, is_list_non, is_list_bl, is_list_int, is_list_str, is_list_tup, is_list_lst, List.map_cons, List.map_nil, List.length_cons, List.length_nil, List.cons_append, List.nil_append, List.replicate_succ, List.replicate_zero, List.getElem?_cons_zero, List.getElem?_cons_succ, List.set_cons_zero, List.set_cons_succ, List.append_nil, bindP, wipeT, setAll, Nat.reduceSub, Nat.reduceAdd, true_and, and_true, if_true, if_false, Bool.not_true, Bool.not_false, eq_self, ite_true, ite_false, reduceIte, ne_eq, not_false_eq_true, not_true_eq_false, false_or, or_false, true_or, or_true, Bool.false_eq_true]
  unfold f__law_item_r3
  simp only [w_ok, w_bind, w_of, w_fl, w_ite, w_iteN, ex_ite, ex_some, ex_map, ex_bind, w_C, w_V, w_Bin, w_Un, w_Nil, w_Cons, w_Tup, w_Lst, w_Box, w_Of, w_And, w_Or, w_Not, w_True, w_eAnd, w_eOr, w_eNot, w_If, w_Chain, w_oN, w_oS, w_Sl, w_Call, w_CallB, w_eJoin, w_Rev, ex_str, v_nx, v_rt, v_Skip, v_Seq, v_If, v_Ret, v_Expr, v_Set, v_Tp, v_Par, v_For, v_App, v_Mut, v_Ext, v_Put, v_PutB, ex_eqT, ex_eqL, ex_lst, ex_bl, ex_int, if_dec, w_iMap, w_iR1, w_iR2, w_iR3, w_iZ, w_iZE, w_Lc, w_LRg, v_AppPop, w_eJs, w_jsN, w_jsC, q_repL, q_gEnT, q_addT, q_shr, q_and, q_revL, q_revT, q_cat, q_lnL, p_two, q_slL, q_slT, q_add, q_sub, q_mul, q_div, q_mod, q_pow, q_shl, q_lt, q_le, q_gt, q_ge, q_max2, q_min2, q_neg, q_abs, q_intI, q_intB, q_lenT, q_lenL, q_ixT, q_ixL, q_tupL, q_tupT, q_lstL, q_lstT, q_isN, q_gL, q_gT, q_gEnL, q_eq, q_ne, okMod_iff, okAll_iff, okPow_iff, okR_iff, at0, at1, at2, at3, at4, at5, is_int_non, is_int_bl, is_int_int, is_int_str, is_int_tup, is_int_lst, is_bool_non, is_bool_bl, is_bool_int, is_bool_str, is_bool_tup, is_bool_lst, is_str_non, is_str_bl, is_str_int, is_str_str, is_str_tup, is_str_lst, is_tuple_non, is_tuple_bl, is_tuple_int, is_tuple_str, is_tuple_tup, is_tuple_lst, is_list_non, is_list_bl, is_list_int, is_list_str, is_list_tup, is_list_lst, List.map_cons, List.map_nil, List.length_cons, List.length_nil, List.cons_append, List.nil_append, List.replicate_succ, List.replicate_zero, List.getElem?_cons_zero, List.getElem?_cons_succ, List.set_cons_zero, List.set_cons_succ, List.append_nil, bindP, wipeT, setAll, Nat.reduceSub, Nat.reduceAdd, true_and, and_true, if_true, if_false, Bool.not_true, Bool.not_false, eq_self, ite_true, ite_false, reduceIte, ne_eq, not_false_eq_true, not_true_eq_false, false_or, or_false, true_or, or_true, Bool.false_eq_true]
  refine ⟨le_line (by decide), take_spec hb2 (by decide) (by decide) fun e h3 hb3 e0 e1 => ?_⟩
  have hv : ∃ v : Int, (3 ≤ v ∧ v ≤ 100) ∧ atI [T.int 3, T.int 20, T.int 100] e = some (.int v) := by
    rcases (by omega : e = 0 ∨ e = 1 ∨ e = 2) with rfl | rfl | rfl
    · exact ⟨3, by omega, rfl⟩
    · exact ⟨20, by omega, rfl⟩
    · exact ⟨100, by omega, rfl⟩
  obtain ⟨v, ⟨v0, v1⟩, ev⟩ := hv
  simp only [w_ok, w_bind, w_of, w_fl, w_ite, w_iteN, ex_ite, ex_some, ex_map, ex_bind, w_C, w_V, w_Bin, w_Un, w_Nil, w_Cons, w_Tup, w_Lst, w_Box, w_Of, w_And, w_Or, w_Not, w_True, w_eAnd, w_eOr, w_eNot, w_If, w_Chain, w_oN, w_oS, w_Sl, w_Call, w_CallB, w_eJoin, w_Rev, ex_str, v_nx, v_rt, v_Skip, v_Seq, v_If, v_Ret, v_Expr, v_Set, v_Tp, v_Par, v_For, v_App, v_Mut, v_Ext, v_Put, v_PutB, ex_eqT, ex_eqL, ex_lst, ex_bl, ex_int, if_dec, w_iMap, w_iR1, w_iR2, w_iR3, w_iZ, w_iZE, w_Lc, w_LRg, v_AppPop, w_eJs, w_jsN, w_jsC, q_repL, q_gEnT, q_addT, q_shr, q_and, q_revL, q_revT, q_cat, q_lnL, p_two, q_slL, q_slT, q_add, q_sub, q_mul, q_div, q_mod, q_pow, q_shl, q_lt, q_le, q_gt, q_ge, q_max2, q_min2, q_neg, q_abs, q_intI, q_intB, q_lenT, q_lenL, q_ixT, q_ixL, q_tupL, q_tupT, q_lstL, q_lstT, q_isN, q_gL, q_gT, q_gEnL, q_eq, q_ne, okMod_iff, okAll_iff, okPow_iff, okR_iff, at0, at1, at2, at3, at4, at5, is_int_non, is_int_bl, is_int_int, is_int_str, is_int_tup, is_int_lst, is_bool_non, is_bool_bl, is_bool_int, is_bool_str, is_bool_tup, is_bool_lst, is_str_non, is_str_bl, is_str_int, is_str_str, is_str_tup, is_str_lst, is_tuple_non, is_tuple_bl, is_tuple_int, is_tuple_str, is_tuple_tup, is_tuple_lst, is_list_non, is_list_bl, is_list_int, is_list_str, is_list_tup, is_list_lst, List.map_cons, List.map_nil, List.length_cons, List.length_nil, List.cons_append, List.nil_append, List.replicate_succ, List.replicate_zero, List.getElem?_cons_zero, List.getElem?_cons_succ, List.set_cons_zero, List.set_cons_succ, List.append_nil, bindP, wipeT, setAll, Nat.reduceSub, Nat.reduceAdd, true_and, and_true, if_true, if_false, Bool.not_true, Bool.not_false, eq_self, ite_true, ite_false, reduceIte, ne_eq, not_false_eq_true, not_true_eq_false, false_or, or_false, true_or, or_true, Bool.false_eq_true, ev]
  unfold f__law_item_r2
  simp only [w_ok, w_bind, w_of, w_fl, w_ite, w_iteN, ex_ite, ex_some, ex_map, ex_bind, w_C, w_V, w_Bin, w_Un, w_Nil, w_Cons, w_Tup, w_Lst, w_Box, w_Of, w_And, w_Or, w_Not, w_True, w_eAnd, w_eOr, w_eNot, w_If, w_Chain, w_oN, w_oS, w_Sl, w_Call, w_CallB, w_eJoin, w_Rev, ex_str, v_nx, v_rt, v_Skip, v_Seq, v_If, v_Ret, v_Expr, v_Set, v_Tp, v_Par, v_For, v_App, v_Mut, v_Ext, v_Put, v_PutB, ex_eqT, ex_eqL, ex_lst, ex_bl, ex_int, if_dec, w_iMap, w_iR1, w_iR2, w_iR3, w_iZ, w_iZE, w_Lc, w_LRg, v_AppPop, w_eJs, w_jsN, w_jsC, q_repL, q_gEnT, q_addT, q_shr, q_and, q_revL, q_revT, q_cat, q_lnL, p_two, q_slL, q_slT, q_add, q_sub, q_mul, q_div, q_mod, q_pow, q_shl, q_lt, q_le, q_gt, q_ge, q_max2, q_min2, q_neg, q_abs, q_intI, q_intB, q_lenT, q_lenL, q_ixT, q_ixL, q_tupL, q_tupT, q_lstL, q_lstT, q_isN, q_gL, q_gT, q_gEnL, q_eq, q_ne, okMod_iff, okAll_iff, okPow_iff, okR_iff, at0, at1, at2, at3, at4, at5, is_int_non, is_int_bl, is_int_int, is_int_str, is_int_tup, is_int_lst, is_bool_non, is_bool_bl, is_bool_int, is_bool_str, is_bool_tup, is_bool_lst, is_str_non, is_str_bl, is_str_int, is_str_str, is_str_tup, is_str_lst, is_tuple_non, is_tuple_bl, is_tuple_int, is_tuple_str, is_tuple_tup, is_tuple_lst, is_list_non, is_list_bl, is_list_int, is_list_str, is_list_tup, is_list_lst, List.map_cons, List.map_nil, List.length_cons, List.length_nil, List.cons_append, List.nil_append, List.replicate_succ, List.replicate_zero, List.getElem?_cons_zero, List.getElem?_cons_succ, List.set_cons_zero, List.set_cons_succ, List.append_nil, bindP, wipeT, setAll, Nat.reduceSub, Nat.reduceAdd, true_and, and_true, if_true, if_false, Bool.not_true, Bool.not_false, eq_self, ite_true, ite_false, reduceIte, ne_eq, not_false_eq_true, not_true_eq_false, false_or, or_false, true_or, or_true, Bool.false_eq_true]
  refine ⟨⟨by omega, by omega⟩, ?_⟩
  refine (lc_all (fun h => Bag h n) (fun _ y => ∃ d, y = T.int d ∧ -100 ≤ d ∧ d ≤ 100) hb3 ?_).imp ?_
  · intro t mt h4 hb4
    refine ⟨_, rfl, ?_⟩
    unfold f__law_item_e1
    simp only [w_ok, w_bind, w_of, w_fl, w_ite, w_iteN, ex_ite, ex_some, ex_map, ex_bind, w_C, w_V, w_Bin, w_Un, w_Nil, w_Cons, w_Tup, w_Lst, w_Box, w_Of, w_And, w_Or, w_Not, w_True, w_eAnd, w_eOr, w_eNot, w_If, w_Chain, w_oN, w_oS, w_Sl, w_Call, w_CallB, w_eJoin, w_Rev, ex_str, v_nx, v_rt, v_Skip, v_Seq, v_If, v_Ret, v_Expr, v_Set, v_Tp, v_Par, v_For, v_App, v_Mut, v_Ext, v_Put, v_PutB, ex_eqT, ex_eqL, ex_lst, ex_bl, ex_int, if_dec, w_iMap, w_iR1, w_iR2, w_iR3, w_iZ, w_iZE, w_Lc, w_LRg, v_AppPop, w_eJs, w_jsN, w_jsC, q_repL, q_gEnT, q_addT, q_shr, q_and, q_revL, q_revT, q_cat, q_lnL, p_two, q_slL, q_slT, q_add, q_sub, q_mul, q_div, q_mod, q_pow, q_shl, q_lt, q_le, q_gt, q_ge, q_max2, q_min2, q_neg, q_abs, q_intI, q_intB, q_lenT, q_lenL, q_ixT, q_ixL, q_tupL, q_tupT, q_lstL, q_lstT, q_isN, q_gL, q_gT, q_gEnL, q_eq, q_ne, okMod_iff, okAll_iff, okPow_iff, okR_iff, at0, at1, at2, at3, at4, at5, is_int_non, is_int_bl, is_int_int, is_int_str, is_int_tup, is_int_lst, is_bool_non, is_bool_bl, is_bool_int, is_bool_str, is_bool_tup, is_bool_lst, is_str_non, is_str_bl, is_str_int, is_str_str, is_str_tup, is_str_lst, is_tuple_non, is_tuple_bl, is_tuple_int, is_tuple_str, is_tuple_tup, is_tuple_lst, is_list_non, is_list_bl, is_list_int, is_list_str, is_list_tup, is_list_lst, List.map_cons, List.map_nil, List.length_cons, List.length_nil, List.cons_append, List.nil_append, List.replicate_succ, List.replicate_zero, List.getElem?_cons_zero, List.getElem?_cons_succ, List.set_cons_zero, List.set_cons_succ, List.append_nil, bindP, wipeT, setAll, Nat.reduceSub, Nat.reduceAdd, true_and, and_true, if_true, if_false, Bool.not_true, Bool.not_false, eq_self, ite_true, ite_false, reduceIte, ne_eq, not_false_eq_true, not_true_eq_false, false_or, or_false, true_or, or_true, Bool.false_eq_true]
    refine ⟨okMul_10 (by omega) (by omega) (by omega) (by omega), ?_⟩
    refine take_spec hb4 (by omega) (by omega) fun d h' hb' d0 d1 => ?_
    simp only [w_ok, w_bind, w_of, w_fl, w_ite, w_iteN, ex_ite, ex_some, ex_map, ex_bind, w_C, w_V, w_Bin, w_Un, w_Nil, w_Cons, w_Tup, w_Lst, w_Box, w_Of, w_And, w_Or, w_Not, w_True, w_eAnd, w_eOr, w_eNot, w_If, w_Chain, w_oN, w_oS, w_Sl, w_Call, w_CallB, w_eJoin, w_Rev, ex_str, v_nx, v_rt, v_Skip, v_Seq, v_If, v_Ret, v_Expr, v_Set, v_Tp, v_Par, v_For, v_App, v_Mut, v_Ext, v_Put, v_PutB, ex_eqT, ex_eqL, ex_lst, ex_bl, ex_int, if_dec, w_iMap, w_iR1, w_iR2, w_iR3, w_iZ, w_iZE, w_Lc, w_LRg, v_AppPop, w_eJs, w_jsN, w_jsC, q_repL, q_gEnT, q_addT, q_shr, q_and, q_revL, q_revT, q_cat, q_lnL, p_two, q_slL, q_slT, q_add, q_sub, q_mul, q_div, q_mod, q_pow, q_shl, q_lt, q_le, q_gt, q_ge, q_max2, q_min2, q_neg, q_abs, q_intI, q_intB, q_lenT, q_lenL, q_ixT, q_ixL, q_tupL, q_tupT, q_lstL, q_lstT, q_isN, q_gL, q_gT, q_gEnL, q_eq, q_ne, okMod_iff, okAll_iff, okPow_iff, okR_iff, at0, at1, at2, at3, at4, at5, is_int_non, is_int_bl, is_int_int, is_int_str, is_int_tup, is_int_lst, is_bool_non, is_bool_bl, is_bool_int, is_bool_str, is_bool_tup, is_bool_lst, is_str_non, is_str_bl, is_str_int, is_str_str, is_str_tup, is_str_lst, is_tuple_non, is_tuple_bl, is_tuple_int, is_tuple_str, is_tuple_tup, is_tuple_lst, is_list_non, is_list_bl, is_list_int, is_list_str, is_list_tup, is_list_lst, List.map_cons, List.map_nil, List.length_cons, List.length_nil, List.cons_append, List.nil_append, List.replicate_succ, List.replicate_zero, List.getElem?_cons_zero, List.getElem?_cons_succ, List.set_cons_zero, List.set_cons_succ, List.append_nil, bindP, wipeT, setAll, Nat.reduceSub, Nat.reduceAdd, true_and, and_true, if_true, if_false, Bool.not_true, Bool.not_false, eq_self, ite_true, ite_false, reduceIte, ne_eq, not_false_eq_true, not_true_eq_false, false_or, or_false, true_or, or_true, Bool.false_eq_true]
    exact ⟨⟨by omega, by omega⟩, hb'⟩
  rintro ys h4 ⟨al, hb4⟩
  obtain ⟨xs, rfl, q1, q2⟩ := all2_ints al
  have ql : (rngL 0 (ax : Int).toNat 1).length = ax := by simp [rngL]
  rw [ql] at q2
  refine ⟨by rw [ql]; exact le_line (by omega), ?_⟩
  try simp only [w_ok, w_bind, w_of, w_fl, w_ite, w_iteN, ex_ite, ex_some, ex_map, ex_bind, w_C, w_V, w_Bin, w_Un, w_Nil, w_Cons, w_Tup, w_Lst, w_Box, w_Of, w_And, w_Or, w_Not, w_True, w_eAnd, w_eOr, w_eNot, w_If, w_Chain, w_oN, w_oS, w_Sl, w_Call, w_CallB, w_eJoin, w_Rev, ex_str, v_nx, v_rt, v_Skip, v_Seq, v_If, v_Ret, v_Expr, v_Set, v_Tp, v_Par, v_For, v_App, v_Mut, v_Ext, v_Put, v_PutB, ex_eqT, ex_eqL, ex_lst, ex_bl, ex_int, if_dec, w_iMap, w_iR1, w_iR2, w_iR3, w_iZ, w_iZE, w_Lc, w_LRg, v_AppPop, w_eJs, w_jsN, w_jsC, q_repL, q_gEnT, q_addT, q_shr, q_and, q_revL, q_revT, q_cat, q_lnL, p_two, q_slL, q_slT, q_add, q_sub, q_mul, q_div, q_mod, q_pow, q_shl, q_lt, q_le, q_gt, q_ge, q_max2, q_min2, q_neg, q_abs, q_intI, q_intB, q_lenT, q_lenL, q_ixT, q_ixL, q_tupL, q_tupT, q_lstL, q_lstT, q_isN, q_gL, q_gT, q_gEnL, q_eq, q_ne, okMod_iff, okAll_iff, okPow_iff, okR_iff, at0, at1, at2, at3, at4, at5, is_int_non, is_int_bl, is_int_int, is_int_str, is_int_tup, is_int_lst, is_bool_non, is_bool_bl, is_bool_int, is_bool_str, is_bool_tup, is_bool_lst, is_str_non, is_str_bl, is_str_int, is_str_str, is_str_tup, is_str_lst, is_tuple_non, is_tuple_bl, is_tuple_int, is_tuple_str, is_tuple_tup, is_tuple_lst, is_list_non, is_list_bl, is_list_int, is_list_str, is_list_tup, is_list_lst, List.map_cons, List.map_nil, List.length_cons, List.length_nil, List.cons_append, List.nil_append, List.replicate_succ, List.replicate_zero, List.getElem?_cons_zero, List.getElem?_cons_succ, List.set_cons_zero, List.set_cons_succ, List.append_nil, bindP, wipeT, setAll, Nat.reduceSub, Nat.reduceAdd, true_and, and_true, if_true, if_false, Bool.not_true, Bool.not_false, eq_self, ite_true, ite_false, reduceIte, ne_eq, not_false_eq_true, not_true_eq_false, false_or, or_false, true_or, or_true, Bool.false_eq_true]
  unfold f__law_item_r1
  have fin : ∀ (xs : List Int) (h' : IH), Bag h' n → xs.length = ax → (∀ x ∈ xs, -100 ≤ x ∧ x ≤ 100) → (∃ x ∈ xs, x ≠ 0) → P (itT (.line xs (1 + s))) h' := fun xs h' hb' lx bx nz => p _ h' hb' ⟨lx, bx, nz, by omega, by omega⟩ fun z => by cases z
  simp only [v_Seq, v_If, w_ok, w_bind, w_of, w_fl, w_ite, w_iteN, ex_ite, ex_some, ex_map, ex_bind, w_C, w_V, w_Bin, w_Un, w_Nil, w_Cons, w_Tup, w_Lst, w_Box, w_Of, w_And, w_Or, w_Not, w_True, w_eAnd, w_eOr, w_eNot, w_If, w_Chain, w_oN, w_oS, w_Sl, w_Call, w_CallB, w_eJoin, w_Rev, ex_str, v_nx, v_rt, v_Skip, v_Seq, v_If, v_Ret, v_Expr, v_Set, v_Tp, v_Par, v_For, v_App, v_Mut, v_Ext, v_Put, v_PutB, ex_eqT, ex_eqL, ex_lst, ex_bl, ex_int, if_dec, w_iMap, w_iR1, w_iR2, w_iR3, w_iZ, w_iZE, w_Lc, w_LRg, v_AppPop, w_eJs, w_jsN, w_jsC, q_repL, q_gEnT, q_addT, q_shr, q_and, q_revL, q_revT, q_cat, q_lnL, p_two, q_slL, q_slT, q_add, q_sub, q_mul, q_div, q_mod, q_pow, q_shl, q_lt, q_le, q_gt, q_ge, q_max2, q_min2, q_neg, q_abs, q_intI, q_intB, q_lenT, q_lenL, q_ixT, q_ixL, q_tupL, q_tupT, q_lstL, q_lstT, q_isN, q_gL, q_gT, q_gEnL, q_eq, q_ne, okMod_iff, okAll_iff, okPow_iff, okR_iff, at0, at1, at2, at3, at4, at5, is_int_non, is_int_bl, is_int_int, is_int_str, is_int_tup, is_int_lst, is_bool_non, is_bool_bl, is_bool_int, is_bool_str, is_bool_tup, is_bool_lst, is_str_non, is_str_bl, is_str_int, is_str_str, is_str_tup, is_str_lst, is_tuple_non, is_tuple_bl, is_tuple_int, is_tuple_str, is_tuple_tup, is_tuple_lst, is_list_non, is_list_bl, is_list_int, is_list_str, is_list_tup, is_list_lst, List.map_cons, List.map_nil, List.length_cons, List.length_nil, List.cons_append, List.nil_append, List.replicate_succ, List.replicate_zero, List.getElem?_cons_zero, List.getElem?_cons_succ, List.set_cons_zero, List.set_cons_succ, List.append_nil, bindP, wipeT, setAll, Nat.reduceSub, Nat.reduceAdd, true_and, and_true, if_true, if_false, Bool.not_true, Bool.not_false, eq_self, ite_true, ite_false, reduceIte, ne_eq, not_false_eq_true, not_true_eq_false, false_or, or_false, true_or, or_true, Bool.false_eq_true, q_anyI]
  cases ea : xs.any (· != 0) with
  | true =>
    simp only [v_If, w_ok, w_bind, w_of, w_fl, w_ite, w_iteN, ex_ite, ex_some, ex_map, ex_bind, w_C, w_V, w_Bin, w_Un, w_Nil, w_Cons, w_Tup, w_Lst, w_Box, w_Of, w_And, w_Or, w_Not, w_True, w_eAnd, w_eOr, w_eNot, w_If, w_Chain, w_oN, w_oS, w_Sl, w_Call, w_CallB, w_eJoin, w_Rev, ex_str, v_nx, v_rt, v_Skip, v_Seq, v_If, v_Ret, v_Expr, v_Set, v_Tp, v_Par, v_For, v_App, v_Mut, v_Ext, v_Put, v_PutB, ex_eqT, ex_eqL, ex_lst, ex_bl, ex_int, if_dec, w_iMap, w_iR1, w_iR2, w_iR3, w_iZ, w_iZE, w_Lc, w_LRg, v_AppPop, w_eJs, w_jsN, w_jsC, q_repL, q_gEnT, q_addT, q_shr, q_and, q_revL, q_revT, q_cat, q_lnL, p_two, q_slL, q_slT, q_add, q_sub, q_mul, q_div, q_mod, q_pow, q_shl, q_lt, q_le, q_gt, q_ge, q_max2, q_min2, q_neg, q_abs, q_intI, q_intB, q_lenT, q_lenL, q_ixT, q_ixL, q_tupL, q_tupT, q_lstL, q_lstT, q_isN, q_gL, q_gT, q_gEnL, q_eq, q_ne, okMod_iff, okAll_iff, okPow_iff, okR_iff, at0, at1, at2, at3, at4, at5, is_int_non, is_int_bl, is_int_int, is_int_str, is_int_tup, is_int_lst, is_bool_non, is_bool_bl, is_bool_int, is_bool_str, is_bool_tup, is_bool_lst, is_str_non, is_str_bl, is_str_int, is_str_str, is_str_tup, is_str_lst, is_tuple_non, is_tuple_bl, is_tuple_int, is_tuple_str, is_tuple_tup, is_tuple_lst, is_list_non, is_list_bl, is_list_int, is_list_str, is_list_tup, is_list_lst, List.map_cons, List.map_nil, List.length_cons, List.length_nil, List.cons_append, List.nil_append, List.replicate_succ, List.replicate_zero, List.getElem?_cons_zero, List.getElem?_cons_succ, List.set_cons_zero, List.set_cons_succ, List.append_nil, bindP, wipeT, setAll, Nat.reduceSub, Nat.reduceAdd, true_and, and_true, if_true, if_false, Bool.not_true, Bool.not_false, eq_self, ite_true, ite_false, reduceIte, ne_eq, not_false_eq_true, not_true_eq_false, false_or, or_false, true_or, or_true, Bool.false_eq_true]
    obtain ⟨x, mx, hx⟩ := List.any_eq_true.mp ea
    exact ⟨three_line, fin xs h4 hb4 q2 q1 ⟨x, mx, by simpa using hx⟩⟩
  | false =>
    simp only [v_If, w_ok, w_bind, w_of, w_fl, w_ite, w_iteN, ex_ite, ex_some, ex_map, ex_bind, w_C, w_V, w_Bin, w_Un, w_Nil, w_Cons, w_Tup, w_Lst, w_Box, w_Of, w_And, w_Or, w_Not, w_True, w_eAnd, w_eOr, w_eNot, w_If, w_Chain, w_oN, w_oS, w_Sl, w_Call, w_CallB, w_eJoin, w_Rev, ex_str, v_nx, v_rt, v_Skip, v_Seq, v_If, v_Ret, v_Expr, v_Set, v_Tp, v_Par, v_For, v_App, v_Mut, v_Ext, v_Put, v_PutB, ex_eqT, ex_eqL, ex_lst, ex_bl, ex_int, if_dec, w_iMap, w_iR1, w_iR2, w_iR3, w_iZ, w_iZE, w_Lc, w_LRg, v_AppPop, w_eJs, w_jsN, w_jsC, q_repL, q_gEnT, q_addT, q_shr, q_and, q_revL, q_revT, q_cat, q_lnL, p_two, q_slL, q_slT, q_add, q_sub, q_mul, q_div, q_mod, q_pow, q_shl, q_lt, q_le, q_gt, q_ge, q_max2, q_min2, q_neg, q_abs, q_intI, q_intB, q_lenT, q_lenL, q_ixT, q_ixL, q_tupL, q_tupT, q_lstL, q_lstT, q_isN, q_gL, q_gT, q_gEnL, q_eq, q_ne, okMod_iff, okAll_iff, okPow_iff, okR_iff, at0, at1, at2, at3, at4, at5, is_int_non, is_int_bl, is_int_int, is_int_str, is_int_tup, is_int_lst, is_bool_non, is_bool_bl, is_bool_int, is_bool_str, is_bool_tup, is_bool_lst, is_str_non, is_str_bl, is_str_int, is_str_str, is_str_tup, is_str_lst, is_tuple_non, is_tuple_bl, is_tuple_int, is_tuple_str, is_tuple_tup, is_tuple_lst, is_list_non, is_list_bl, is_list_int, is_list_str, is_list_tup, is_list_lst, List.map_cons, List.map_nil, List.length_cons, List.length_nil, List.cons_append, List.nil_append, List.replicate_succ, List.replicate_zero, List.getElem?_cons_zero, List.getElem?_cons_succ, List.set_cons_zero, List.set_cons_succ, List.append_nil, bindP, wipeT, setAll, Nat.reduceSub, Nat.reduceAdd, true_and, and_true, if_true, if_false, Bool.not_true, Bool.not_false, eq_self, ite_true, ite_false, reduceIte, ne_eq, not_false_eq_true, not_true_eq_false, false_or, or_false, true_or, or_true, Bool.false_eq_true, List.length_map]
    refine take_spec hb4 (by omega) (by omega) fun j h5 hb5 j0 j1 => ?_
    obtain ⟨i, rfl⟩ : ∃ i : Nat, j = (i : Int) := ⟨j.toNat, by omega⟩
    have ix : ixN xs.length (i : Int) = some i := ix_nat (by omega)
    have em : ∀ w : Int, (xs.map T.int).set i (T.int w) = (xs.set i w).map T.int := fun w => by rw [← List.map_set]
    simp only [w_ok, w_bind, w_of, w_fl, w_ite, w_iteN, ex_ite, ex_some, ex_map, ex_bind, w_C, w_V, w_Bin, w_Un, w_Nil, w_Cons, w_Tup, w_Lst, w_Box, w_Of, w_And, w_Or, w_Not, w_True, w_eAnd, w_eOr, w_eNot, w_If, w_Chain, w_oN, w_oS, w_Sl, w_Call, w_CallB, w_eJoin, w_Rev, ex_str, v_nx, v_rt, v_Skip, v_Seq, v_If, v_Ret, v_Expr, v_Set, v_Tp, v_Par, v_For, v_App, v_Mut, v_Ext, v_Put, v_PutB, ex_eqT, ex_eqL, ex_lst, ex_bl, ex_int, if_dec, w_iMap, w_iR1, w_iR2, w_iR3, w_iZ, w_iZE, w_Lc, w_LRg, v_AppPop, w_eJs, w_jsN, w_jsC, q_repL, q_gEnT, q_addT, q_shr, q_and, q_revL, q_revT, q_cat, q_lnL, p_two, q_slL, q_slT, q_add, q_sub, q_mul, q_div, q_mod, q_pow, q_shl, q_lt, q_le, q_gt, q_ge, q_max2, q_min2, q_neg, q_abs, q_intI, q_intB, q_lenT, q_lenL, q_ixT, q_ixL, q_tupL, q_tupT, q_lstL, q_lstT, q_isN, q_gL, q_gT, q_gEnL, q_eq, q_ne, okMod_iff, okAll_iff, okPow_iff, okR_iff, at0, at1, at2, at3, at4, at5, is_int_non, is_int_bl, is_int_int, is_int_str, is_int_tup, is_int_lst, is_bool_non, is_bool_bl, is_bool_int, is_bool_str, is_bool_tup, is_bool_lst, is_str_non, is_str_bl, is_str_int, is_str_str, is_str_tup, is_str_lst, is_tuple_non, is_tuple_bl, is_tuple_int, is_tuple_str, is_tuple_tup, is_tuple_lst, is_list_non, is_list_bl, is_list_int, is_list_str, is_list_tup, is_list_lst, List.map_cons, List.map_nil, List.length_cons, List.length_nil, List.cons_append, List.nil_append, List.replicate_succ, List.replicate_zero, List.getElem?_cons_zero, List.getElem?_cons_succ, List.set_cons_zero, List.set_cons_succ, List.append_nil, bindP, wipeT, setAll, Nat.reduceSub, Nat.reduceAdd, true_and, and_true, if_true, if_false, Bool.not_true, Bool.not_false, eq_self, ite_true, ite_false, reduceIte, ne_eq, not_false_eq_true, not_true_eq_false, false_or, or_false, true_or, or_true, Bool.false_eq_true, List.length_map, ix, em]
    refine ⟨three_line, fin (xs.set i 1) h5 hb5 (by rw [List.length_set]; exact q2) (fun x mx => ?_) ⟨1, List.mem_iff_getElem.mpr ⟨i, by rw [List.length_set]; omega, by simp⟩, by decide⟩⟩
    rcases List.mem_or_eq_of_mem_set mx with m | rfl
    · exact q1 x m
    · omega
theorem item_spec2 {n : Nat} {ax : Nat} {h : IH} (hb : Bag h n) (a2 : 2 ≤ ax) (a3 : ax ≤ 3) {P : T → IH → Prop} (p : ∀ (i : Itm) h', Bag h' n → OkI ax i → (isL i = false → shT 1 (itT i) = true) → MkOk i → P (itT i) h') : Ok (f__law_item [.box n, .int (ax : Int)] h) P := by
  have hs : (100000 : Nat) ≤ sizeLine := by decide
  unfold f__law_item
  rw [w_runF]
  refine ⟨rfl, ?_⟩
  simp only [w_ok, w_bind, w_of, w_fl, w_ite, w_iteN, ex_ite, ex_some, ex_map, ex_bind, w_C, w_V, w_Bin, w_Un, w_Nil, w_Cons, w_Tup, w_Lst, w_Box, w_Of, w_And, w_Or, w_Not, w_True, w_eAnd, w_eOr, w_eNot, w_If, w_Chain, w_oN, w_oS, w_Sl, w_Call, w_CallB, w_eJoin, w_Rev, ex_str, v_nx, v_rt, v_Skip, v_Seq, v_If, v_Ret, v_Expr, v_Set, v_Tp, v_Par, v_For, v_App, v_Mut, v_Ext, v_Put, v_PutB, ex_eqT, ex_eqL, ex_lst, ex_bl, ex_int, if_dec, w_iMap, w_iR1, w_iR2, w_iR3, w_iZ, w_iZE, w_Lc, w_LRg, v_AppPop, w_eJs, w_jsN, w_jsC, q_repL, q_gEnT, q_addT, q_shr, q_and, q_revL, q_revT, q_cat, q_lnL, p_two, q_slL, q_slT, q_add, q_sub, q_mul, q_div, q_mod, q_pow, q_shl, q_lt, q_le, q_gt, q_ge, q_max2, q_min2, q_neg, q_abs, q_intI, q_intB, q_lenT, q_lenL, q_ixT, q_ixL, q_tupL, q_tupT, q_lstL, q_lstT, q_isN, q_gL, q_gT, q_gEnL, q_eq, q_ne, okMod_iff, okAll_iff, okPow_iff, okR_iff, at0, at1, at2, at3, at4, at5, is_int_non, is_int_bl, is_int_int, is_int_str, is_int_tup, is_int_lst, is_bool_non, is_bool_bl, is_bool_int, is_bool_str, is_bool_tup, is_bool_lst, is_str_non, is_str_bl, is_str_int, is_str_str, is_str_tup, is_str_lst, is_tuple_non, is_tuple_bl, is_tuple_int, is_tuple_str, is_tuple_tup, is_tuple_lst, is_list_non, is_list_bl, is_list_int, is_list_str, is_list_tup, is_list_lst, List.map_cons, List.map_nil, List.length_cons, List.length_nil, List.cons_append, List.nil_append, List.replicate_succ, List.replicate_zero, List.getElem?_cons_zero, List.getElem?_cons_succ, List.set_cons_zero, List.set_cons_succ, List.append_nil, bindP, wipeT, setAll, Nat.reduceSub, Nat.reduceAdd, true_and, and_true, if_true, if_false, Bool.not_true, Bool.not_false, eq_self, ite_true, ite_false, reduceIte, ne_eq, not_false_eq_true, not_true_eq_false, false_or, or_false, true_or, or_true, Bool.false_eq_true]
  refine take_spec hb (by decide) (by decide) fun k h1 hb1 k0 k1 => ?_
  unfold f__law_item_r7
  simp only [v_Seq, v_If, w_ok, w_bind, w_of, w_fl, w_ite, w_iteN, ex_ite, ex_some, ex_map, ex_bind, w_C, w_V, w_Bin, w_Un, w_Nil, w_Cons, w_Tup, w_Lst, w_Box, w_Of, w_And, w_Or, w_Not, w_True, w_eAnd, w_eOr, w_eNot, w_If, w_Chain, w_oN, w_oS, w_Sl, w_Call, w_CallB, w_eJoin, w_Rev, ex_str, v_nx, v_rt, v_Skip, v_Seq, v_If, v_Ret, v_Expr, v_Set, v_Tp, v_Par, v_For, v_App, v_Mut, v_Ext, v_Put, v_PutB, ex_eqT, ex_eqL, ex_lst, ex_bl, ex_int, if_dec, w_iMap, w_iR1, w_iR2, w_iR3, w_iZ, w_iZE, w_Lc, w_LRg, v_AppPop, w_eJs, w_jsN, w_jsC, q_repL, q_gEnT, q_addT, q_shr, q_and, q_revL, q_revT, q_cat, q_lnL, p_two, q_slL, q_slT, q_add, q_sub, q_mul, q_div, q_mod, q_pow, q_shl, q_lt, q_le, q_gt, q_ge, q_max2, q_min2, q_neg, q_abs, q_intI, q_intB, q_lenT, q_lenL, q_ixT, q_ixL, q_tupL, q_tupT, q_lstL, q_lstT, q_isN, q_gL, q_gT, q_gEnL, q_eq, q_ne, okMod_iff, okAll_iff, okPow_iff, okR_iff, at0, at1, at2, at3, at4, at5, is_int_non, is_int_bl, is_int_int, is_int_str, is_int_tup, is_int_lst, is_bool_non, is_bool_bl, is_bool_int, is_bool_str, is_bool_tup, is_bool_lst, is_str_non, is_str_bl, is_str_int, is_str_str, is_str_tup, is_str_lst, is_tuple_non, is_tuple_bl, is_tuple_int, is_tuple_str, is_tuple_tup, is_tuple_lst, is_list_non, is_list_bl, is_list_int, is_list_str, is_list_tup, is_list_lst, List.map_cons, List.map_nil, List.length_cons, List.length_nil, List.cons_append, List.nil_append, List.replicate_succ, List.replicate_zero, List.getElem?_cons_zero, List.getElem?_cons_succ, List.set_cons_zero, List.set_cons_succ, List.append_nil, bindP, wipeT, setAll, Nat.reduceSub, Nat.reduceAdd, true_and, and_true, if_true, if_false, Bool.not_true, Bool.not_false, eq_self, ite_true, ite_false, reduceIte, ne_eq, not_false_eq_true, not_true_eq_false, false_or, or_false, true_or, or_true, Bool.false_eq_true]
  split
  · refine take_spec hb1 (by decide) (by decide) fun d h2 hb2 d0 d1 => ?_
    simp only [w_ok, w_bind, w_of, w_fl, w_ite, w_iteN, ex_ite, ex_some, ex_map, ex_bind, w_C, w_V, w_Bin, w_Un, w_Nil, w_Cons, w_Tup, w_Lst, w_Box, w_Of, w_And, w_Or, w_Not, w_True, w_eAnd, w_eOr, w_eNot, w_If, w_Chain, w_oN, w_oS, w_Sl, w_Call, w_CallB, w_eJoin, w_Rev, ex_str, v_nx, v_rt, v_Skip, v_Seq, v_If, v_Ret, v_Expr, v_Set, v_Tp, v_Par, v_For, v_App, v_Mut, v_Ext, v_Put, v_PutB, ex_eqT, ex_eqL, ex_lst, ex_bl, ex_int, if_dec, w_iMap, w_iR1, w_iR2, w_iR3, w_iZ, w_iZE, w_Lc, w_LRg, v_AppPop, w_eJs, w_jsN, w_jsC, q_repL, q_gEnT, q_addT, q_shr, q_and, q_revL, q_revT, q_cat, q_lnL, p_two, q_slL, q_slT, q_add, q_sub, q_mul, q_div, q_mod, q_pow, q_shl, q_lt, q_le, q_gt, q_ge, q_max2, q_min2, q_neg, q_abs, q_intI, q_intB, q_lenT, q_lenL, q_ixT, q_ixL, q_tupL, q_tupT, q_lstL, q_lstT, q_isN, q_gL, q_gT, q_gEnL, q_eq, q_ne, okMod_iff, okAll_iff, okPow_iff, okR_iff, at0, at1, at2, at3, at4, at5, is_int_non, is_int_bl, is_int_int, is_int_str, is_int_tup, is_int_lst, is_bool_non, is_bool_bl, is_bool_int, is_bool_str, is_bool_tup, is_bool_lst, is_str_non, is_str_bl, is_str_int, is_str_str, is_str_tup, is_str_lst, is_tuple_non, is_tuple_bl, is_tuple_int, is_tuple_str, is_tuple_tup, is_tuple_lst, is_list_non, is_list_bl, is_list_int, is_list_str, is_list_tup, is_list_lst, List.map_cons, List.map_nil, List.length_cons, List.length_nil, List.cons_append, List.nil_append, List.replicate_succ, List.replicate_zero, List.getElem?_cons_zero, List.getElem?_cons_succ, List.set_cons_zero, List.set_cons_succ, List.append_nil, bindP, wipeT, setAll, Nat.reduceSub, Nat.reduceAdd, true_and, and_true, if_true, if_false, Bool.not_true, Bool.not_false, eq_self, ite_true, ite_false, reduceIte, ne_eq, not_false_eq_true, not_true_eq_false, false_or, or_false, true_or, or_true, Bool.false_eq_true]
    exact ⟨two_line, p (.wait (1 + d)) h2 hb2 trivial (fun _ => (by show (shT 0 (.str "wait") && (shT 0 (.int (1 + d)) && true)) = true; rw [show shT 0 (.str "wait") = true by decide +kernel]; rfl)) ⟨by omega, by omega⟩⟩
  unfold f__law_item_r6
  simp only [v_Seq, v_If, w_ok, w_bind, w_of, w_fl, w_ite, w_iteN, ex_ite, ex_some, ex_map, ex_bind, w_C, w_V, w_Bin, w_Un, w_Nil, w_Cons, w_Tup, w_Lst, w_Box, w_Of, w_And, w_Or, w_Not, w_True, w_eAnd, w_eOr, w_eNot, w_If, w_Chain, w_oN, w_oS, w_Sl, w_Call, w_CallB, w_eJoin, w_Rev, ex_str, v_nx, v_rt, v_Skip, v_Seq, v_If, v_Ret, v_Expr, v_Set, v_Tp, v_Par, v_For, v_App, v_Mut, v_Ext, v_Put, v_PutB, ex_eqT, ex_eqL, ex_lst, ex_bl, ex_int, if_dec, w_iMap, w_iR1, w_iR2, w_iR3, w_iZ, w_iZE, w_Lc, w_LRg, v_AppPop, w_eJs, w_jsN, w_jsC, q_repL, q_gEnT, q_addT, q_shr, q_and, q_revL, q_revT, q_cat, q_lnL, p_two, q_slL, q_slT, q_add, q_sub, q_mul, q_div, q_mod, q_pow, q_shl, q_lt, q_le, q_gt, q_ge, q_max2, q_min2, q_neg, q_abs, q_intI, q_intB, q_lenT, q_lenL, q_ixT, q_ixL, q_tupL, q_tupT, q_lstL, q_lstT, q_isN, q_gL, q_gT, q_gEnL, q_eq, q_ne, okMod_iff, okAll_iff, okPow_iff, okR_iff, at0, at1, at2, at3, at4, at5, is_int_non, is_int_bl, is_int_int, is_int_str, is_int_tup, is_int_lst, is_bool_non, is_bool_bl, is_bool_int, is_bool_str, is_bool_tup, is_bool_lst, is_str_non, is_str_bl, is_str_int, is_str_str, is_str_tup, is_str_lst, is_tuple_non, is_tuple_bl, is_tuple_int, is_tuple_str, is_tuple_tup, is_tuple_lst, is_list_non, is_list_bl, is_list_int, is_list_str, is_list_tup, is_list_lst, List.map_cons, List.map_nil, List.length_cons, List.length_nil, List.cons_append, List.nil_append, List.replicate_succ, List.replicate_zero, List.getElem?_cons_zero, List.getElem?_cons_succ, List.set_cons_zero, List.set_cons_succ, List.append_nil, bindP, wipeT, setAll, Nat.reduceSub, Nat.reduceAdd, true_and, and_true, if_true, if_false, Bool.not_true, Bool.not_false, eq_self, ite_true, ite_false, reduceIte, ne_eq, not_false_eq_true, not_true_eq_false, false_or, or_false, true_or, or_true, Bool.false_eq_true]
  split
  · refine ⟨two_line, take_spec hb1 (by decide) (by decide) fun d h2 hb2 d0 d1 => ?_⟩
    rcases (by omega : d = 0 ∨ d = 1) with rfl | rfl
    · simp only [w_ok, w_bind, w_of, w_fl, w_ite, w_iteN, ex_ite, ex_some, ex_map, ex_bind, w_C, w_V, w_Bin, w_Un, w_Nil, w_Cons, w_Tup, w_Lst, w_Box, w_Of, w_And, w_Or, w_Not, w_True, w_eAnd, w_eOr, w_eNot, w_If, w_Chain, w_oN, w_oS, w_Sl, w_Call, w_CallB, w_eJoin, w_Rev, ex_str, v_nx, v_rt, v_Skip, v_Seq, v_If, v_Ret, v_Expr, v_Set, v_Tp, v_Par, v_For, v_App, v_Mut, v_Ext, v_Put, v_PutB, ex_eqT, ex_eqL, ex_lst, ex_bl, ex_int, if_dec, w_iMap, w_iR1, w_iR2, w_iR3, w_iZ, w_iZE, w_Lc, w_LRg, v_AppPop, w_eJs, w_jsN, w_jsC, q_repL, q_gEnT, q_addT, q_shr, q_and, q_revL, q_revT, q_cat, q_lnL, p_two, q_slL, q_slT, q_add, q_sub, q_mul, q_div, q_mod, q_pow, q_shl, q_lt, q_le, q_gt, q_ge, q_max2, q_min2, q_neg, q_abs, q_intI, q_intB, q_lenT, q_lenL, q_ixT, q_ixL, q_tupL, q_tupT, q_lstL, q_lstT, q_isN, q_gL, q_gT, q_gEnL, q_eq, q_ne, okMod_iff, okAll_iff, okPow_iff, okR_iff, at0, at1, at2, at3, at4, at5, is_int_non, is_int_bl, is_int_int, is_int_str, is_int_tup, is_int_lst, is_bool_non, is_bool_bl, is_bool_int, is_bool_str, is_bool_tup, is_bool_lst, is_str_non, is_str_bl, is_str_int, is_str_str, is_str_tup, is_str_lst, is_tuple_non, is_tuple_bl, is_tuple_int, is_tuple_str, is_tuple_tup, is_tuple_lst, is_list_non, is_list_bl, is_list_int, is_list_str, is_list_tup, is_list_lst, List.map_cons, List.map_nil, List.length_cons, List.length_nil, List.cons_append, List.nil_append, List.replicate_succ, List.replicate_zero, List.getElem?_cons_zero, List.getElem?_cons_succ, List.set_cons_zero, List.set_cons_succ, List.append_nil, bindP, wipeT, setAll, Nat.reduceSub, Nat.reduceAdd, true_and, and_true, if_true, if_false, Bool.not_true, Bool.not_false, eq_self, ite_true, ite_false, reduceIte, ne_eq, not_false_eq_true, not_true_eq_false, false_or, or_false, true_or, or_true, Bool.false_eq_true]
      exact ⟨two_line, p (.tool true) h2 hb2 trivial (fun _ => (by decide +kernel)) trivial⟩
    · simp only [w_ok, w_bind, w_of, w_fl, w_ite, w_iteN, ex_ite, ex_some, ex_map, ex_bind, w_C, w_V, w_Bin, w_Un, w_Nil, w_Cons, w_Tup, w_Lst, w_Box, w_Of, w_And, w_Or, w_Not, w_True, w_eAnd, w_eOr, w_eNot, w_If, w_Chain, w_oN, w_oS, w_Sl, w_Call, w_CallB, w_eJoin, w_Rev, ex_str, v_nx, v_rt, v_Skip, v_Seq, v_If, v_Ret, v_Expr, v_Set, v_Tp, v_Par, v_For, v_App, v_Mut, v_Ext, v_Put, v_PutB, ex_eqT, ex_eqL, ex_lst, ex_bl, ex_int, if_dec, w_iMap, w_iR1, w_iR2, w_iR3, w_iZ, w_iZE, w_Lc, w_LRg, v_AppPop, w_eJs, w_jsN, w_jsC, q_repL, q_gEnT, q_addT, q_shr, q_and, q_revL, q_revT, q_cat, q_lnL, p_two, q_slL, q_slT, q_add, q_sub, q_mul, q_div, q_mod, q_pow, q_shl, q_lt, q_le, q_gt, q_ge, q_max2, q_min2, q_neg, q_abs, q_intI, q_intB, q_lenT, q_lenL, q_ixT, q_ixL, q_tupL, q_tupT, q_lstL, q_lstT, q_isN, q_gL, q_gT, q_gEnL, q_eq, q_ne, okMod_iff, okAll_iff, okPow_iff, okR_iff, at0, at1, at2, at3, at4, at5, is_int_non, is_int_bl, is_int_int, is_int_str, is_int_tup, is_int_lst, is_bool_non, is_bool_bl, is_bool_int, is_bool_str, is_bool_tup, is_bool_lst, is_str_non, is_str_bl, is_str_int, is_str_str, is_str_tup, is_str_lst, is_tuple_non, is_tuple_bl, is_tuple_int, is_tuple_str, is_tuple_tup, is_tuple_lst, is_list_non, is_list_bl, is_list_int, is_list_str, is_list_tup, is_list_lst, List.map_cons, List.map_nil, List.length_cons, List.length_nil, List.cons_append, List.nil_append, List.replicate_succ, List.replicate_zero, List.getElem?_cons_zero, List.getElem?_cons_succ, List.set_cons_zero, List.set_cons_succ, List.append_nil, bindP, wipeT, setAll, Nat.reduceSub, Nat.reduceAdd, true_and, and_true, if_true, if_false, Bool.not_true, Bool.not_false, eq_self, ite_true, ite_false, reduceIte, ne_eq, not_false_eq_true, not_true_eq_false, false_or, or_false, true_or, or_true, Bool.false_eq_true]
      exact ⟨two_line, p (.tool false) h2 hb2 trivial (fun _ => (by decide +kernel)) trivial⟩
  unfold f__law_item_r5
  simp only [v_Seq, v_If, w_ok, w_bind, w_of, w_fl, w_ite, w_iteN, ex_ite, ex_some, ex_map, ex_bind, w_C, w_V, w_Bin, w_Un, w_Nil, w_Cons, w_Tup, w_Lst, w_Box, w_Of, w_And, w_Or, w_Not, w_True, w_eAnd, w_eOr, w_eNot, w_If, w_Chain, w_oN, w_oS, w_Sl, w_Call, w_CallB, w_eJoin, w_Rev, ex_str, v_nx, v_rt, v_Skip, v_Seq, v_If, v_Ret, v_Expr, v_Set, v_Tp, v_Par, v_For, v_App, v_Mut, v_Ext, v_Put, v_PutB, ex_eqT, ex_eqL, ex_lst, ex_bl, ex_int, if_dec, w_iMap, w_iR1, w_iR2, w_iR3, w_iZ, w_iZE, w_Lc, w_LRg, v_AppPop, w_eJs, w_jsN, w_jsC, q_repL, q_gEnT, q_addT, q_shr, q_and, q_revL, q_revT, q_cat, q_lnL, p_two, q_slL, q_slT, q_add, q_sub, q_mul, q_div, q_mod, q_pow, q_shl, q_lt, q_le, q_gt, q_ge, q_max2, q_min2, q_neg, q_abs, q_intI, q_intB, q_lenT, q_lenL, q_ixT, q_ixL, q_tupL, q_tupT, q_lstL, q_lstT, q_isN, q_gL, q_gT, q_gEnL, q_eq, q_ne, okMod_iff, okAll_iff, okPow_iff, okR_iff, at0, at1, at2, at3, at4, at5, is_int_non, is_int_bl, is_int_int, is_int_str, is_int_tup, is_int_lst, is_bool_non, is_bool_bl, is_bool_int, is_bool_str, is_bool_tup, is_bool_lst, is_str_non, is_str_bl, is_str_int, is_str_str, is_str_tup, is_str_lst, is_tuple_non, is_tuple_bl, is_tuple_int, is_tuple_str, is_tuple_tup, is_tuple_lst, is_list_non, is_list_bl, is_list_int, is_list_str, is_list_tup, is_list_lst, List.map_cons, List.map_nil, List.length_cons, List.length_nil, List.cons_append, List.nil_append, List.replicate_succ, List.replicate_zero, List.getElem?_cons_zero, List.getElem?_cons_succ, List.set_cons_zero, List.set_cons_succ, List.append_nil, bindP, wipeT, setAll, Nat.reduceSub, Nat.reduceAdd, true_and, and_true, if_true, if_false, Bool.not_true, Bool.not_false, eq_self, ite_true, ite_false, reduceIte, ne_eq, not_false_eq_true, not_true_eq_false, false_or, or_false, true_or, or_true, Bool.false_eq_true]
  split
  · refine name_spec2 hb1 fun z h2 hb2 oz lz => ?_
    try simp only [w_ok, w_bind, w_of, w_fl, w_ite, w_iteN, ex_ite, ex_some, ex_map, ex_bind, w_C, w_V, w_Bin, w_Un, w_Nil, w_Cons, w_Tup, w_Lst, w_Box, w_Of, w_And, w_Or, w_Not, w_True, w_eAnd, w_eOr, w_eNot, w_If, w_Chain, w_oN, w_oS, w_Sl, w_Call, w_CallB, w_eJoin, w_Rev, ex_str, v_nx, v_rt, v_Skip, v_Seq, v_If, v_Ret, v_Expr, v_Set, v_Tp, v_Par, v_For, v_App, v_Mut, v_Ext, v_Put, v_PutB, ex_eqT, ex_eqL, ex_lst, ex_bl, ex_int, if_dec, w_iMap, w_iR1, w_iR2, w_iR3, w_iZ, w_iZE, w_Lc, w_LRg, v_AppPop, w_eJs, w_jsN, w_jsC, q_repL, q_gEnT, q_addT, q_shr, q_and, q_revL, q_revT, q_cat, q_lnL, p_two, q_slL, q_slT, q_add, q_sub, q_mul, q_div, q_mod, q_pow, q_shl, q_lt, q_le, q_gt, q_ge, q_max2, q_min2, q_neg, q_abs, q_intI, q_intB, q_lenT, q_lenL, q_ixT, q_ixL, q_tupL, q_tupT, q_lstL, q_lstT, q_isN, q_gL, q_gT, q_gEnL, q_eq, q_ne, okMod_iff, okAll_iff, okPow_iff, okR_iff, at0, at1, at2, at3, at4, at5, is_int_non, is_int_bl, is_int_int, is_int_str, is_int_tup, is_int_lst, is_bool_non, is_bool_bl, is_bool_int, is_bool_str, is_bool_tup, is_bool_lst, is_str_non, is_str_bl, is_str_int, is_str_str, is_str_tup, is_str_lst, is_tuple_non, is_tuple_bl, is_tuple_int, is_tuple_str, is_tuple_tup, is_tuple_lst, is_list_non, is_list_bl, is_list_int, is_list_str, is_list_tup, is_list_lst, List.map_cons, List.map_nil, List.length_cons, List.length_nil, List.cons_append, List.nil_append, List.replicate_succ, List.replicate_zero, List.getElem?_cons_zero, List.getElem?_cons_succ, List.set_cons_zero, List.set_cons_succ, List.append_nil, bindP, wipeT, setAll, Nat.reduceSub, Nat.reduceAdd, true_and, and_true, if_true, if_false, Bool.not_true, Bool.not_false, eq_self, ite_true, ite_false, reduceIte, ne_eq, not_false_eq_true, not_true_eq_false, false_or, or_false, true_or, or_true, Bool.false_eq_true]
    refine ⟨two_line, p (.mark z) h2 hb2 trivial (fun _ => ?_) ⟨oz, lz⟩⟩
    have m : shT 0 (.str "mark") = true := by decide +kernel
    have oz : shT 0 (.str z) = true := oz
    show (shT 0 (.str "mark") && (shT 0 (.str z) && true)) = true
    rw [m, oz]; rfl
  unfold f__law_item_r4
  simp only [v_Seq, v_If, w_ok, w_bind, w_of, w_fl, w_ite, w_iteN, ex_ite, ex_some, ex_map, ex_bind, w_C, w_V, w_Bin, w_Un, w_Nil, w_Cons, w_Tup, w_Lst, w_Box, w_Of, w_And, w_Or, w_Not, w_True, w_eAnd, w_eOr, w_eNot, w_If, w_Chain, w_oN, w_oS, w_Sl, w_Call, w_CallB, w_eJoin, w_Rev, ex_str, v_nx, v_rt, v_Skip, v_Seq, v_If, v_Ret, v_Expr, v_Set, v_Tp, v_Par, v_For, v_App, v_Mut, v_Ext, v_Put, v_PutB, ex_eqT, ex_eqL, ex_lst, ex_bl, ex_int, if_dec, w_iMap, w_iR1, w_iR2, w_iR3, w_iZ, w_iZE, w_Lc, w_LRg, v_AppPop, w_eJs, w_jsN, w_jsC, q_repL, q_gEnT, q_addT, q_shr, q_and, q_revL, q_revT, q_cat, q_lnL, p_two, q_slL, q_slT, q_add, q_sub, q_mul, q_div, q_mod, q_pow, q_shl, q_lt, q_le, q_gt, q_ge, q_max2, q_min2, q_neg, q_abs, q_intI, q_intB, q_lenT, q_lenL, q_ixT, q_ixL, q_tupL, q_tupT, q_lstL, q_lstT, q_isN, q_gL, q_gT, q_gEnL, q_eq, q_ne, okMod_iff, okAll_iff, okPow_iff, okR_iff, at0, at1, at2, at3, at4, at5, is_int_non, is_int_bl, is_int_int, is_int_str, is_int_tup, is_int_lst, is_bool_non, is_bool_bl, is_bool_int, is_bool_str, is_bool_tup, is_bool_lst, is_str_non, is_str_bl, is_str_int, is_str_str, is_str_tup, is_str_lst, is_tuple_non, is_tuple_bl, is_tuple_int, is_tuple_str, is_tuple_tup, is_tuple_lst, is_list_non, is_list_bl, is_list_int, is_list_str, is_list_tup, is_list_lst, List.map_cons, List.map_nil, List.length_cons, List.length_nil, List.cons_append, List.nil_append, List.replicate_succ, List.replicate_zero, List.getElem?_cons_zero, List.getElem?_cons_succ, List.set_cons_zero, List.set_cons_succ, List.append_nil, bindP, wipeT, setAll, Nat.reduceSub, Nat.reduceAdd, true_and, and_true, if_true, if_false, Bool.not_true, Bool.not_false, eq_self, ite_true, ite_false, reduceIte, ne_eq, not_false_eq_true, not_true_eq_false, false_or, or_false, true_or, or_true, Bool.false_eq_true]
  refine take_spec hb1 (by decide) (by decide) fun s h2 hb2 s0 s1 => ?_
  simp only [w_ok, w_bind, w_of, w_fl, w_ite, w_iteN, ex_ite, ex_some, ex_map, ex_bind, w_C, w_V, w_Bin, w_Un, w_Nil, w_Cons, w_Tup, w_Lst, w_Box, w_Of, w_And, w_Or, w_Not, w_True, w_eAnd, w_eOr, w_eNot, w_If, w_Chain, w_oN, w_oS, w_Sl, w_Call, w_CallB, w_eJoin, w_Rev, ex_str, v_nx, v_rt, v_Skip, v_Seq, v_If, v_Ret, v_Expr, v_Set, v_Tp, v_Par, v_For, v_App, v_Mut, v_Ext, v_Put, v_PutB, ex_eqT, ex_eqL, ex_lst, ex_bl, ex_int, if_dec, w_iMap, w_iR1, w_iR2, w_iR3, w_iZ, w_iZE, w_Lc, w_LRg, v_AppPop, w_eJs, w_jsN, w_jsC, q_repL, q_gEnT, q_addT, q_shr, q_and, q_revL, q_revT, q_cat, q_lnL, p_two, q_slL, q_slT, q_add, q_sub, q_mul, q_div, q_mod, q_pow, q_shl, q_lt, q_le, q_gt, q_ge, q_max2, q_min2, q_neg, q_abs, q_intI, q_intB, q_lenT, q_lenL, q_ixT, q_ixL, q_tupL, q_tupT, q_lstL, q_lstT, q_isN, q_gL, q_gT, q_gEnL, q_eq, q_ne, okMod_iff, okAll_iff, okPow_iff, okR_iff, at0, at1, at2, at3, at4, at5, is_int_non, is_int_bl, is_int_int, is_int_str, is_int_tup, is_int_lst, is_bool_non, is_bool_bl, is_bool_int, is_bool_str, is_bool_tup, is_bool_lst, is_str_non, is_str_bl, is_str_int, is_str_str, is_str_tup, is_str_lst, is_tuple_non, is_tuple_bl, is_tuple_int, is_tuple_str, is_tuple_tup, is_tuple_lst, is_list_non, is_list_bl, is_list_int, is_list_str, is_list_tup, is_list_lst, List.map_cons, List.map_nil, List.length_cons, List.length_nil, List.cons_append, List.nil_append, List.replicate_succ, List.replicate_zero, List.getElem?_cons_zero, List.getElem?_cons_succ, List.set_cons_zero, List.set_cons_succ, List.append_nil, bindP, wipeT, setAll, Nat.reduceSub, Nat.reduceAdd, true_and, and_true, if_true, if_false, Bool.not_true, Bool.not_false, eq_self, ite_true, ite_false, reduceIte, ne_eq, not_false_eq_true, not_true_eq_false, false_or, or_false, true_or, or_true, Bool.false_eq_true]
  unfold f__law_item_r3
  simp only [w_ok, w_bind, w_of, w_fl, w_ite, w_iteN, ex_ite, ex_some, ex_map, ex_bind, w_C, w_V, w_Bin, w_Un, w_Nil, w_Cons, w_Tup, w_Lst, w_Box, w_Of, w_And, w_Or, w_Not, w_True, w_eAnd, w_eOr, w_eNot, w_If, w_Chain, w_oN, w_oS, w_Sl, w_Call, w_CallB, w_eJoin, w_Rev, ex_str, v_nx, v_rt, v_Skip, v_Seq, v_If, v_Ret, v_Expr, v_Set, v_Tp, v_Par, v_For, v_App, v_Mut, v_Ext, v_Put, v_PutB, ex_eqT, ex_eqL, ex_lst, ex_bl, ex_int, if_dec, w_iMap, w_iR1, w_iR2, w_iR3, w_iZ, w_iZE, w_Lc, w_LRg, v_AppPop, w_eJs, w_jsN, w_jsC, q_repL, q_gEnT, q_addT, q_shr, q_and, q_revL, q_revT, q_cat, q_lnL, p_two, q_slL, q_slT, q_add, q_sub, q_mul, q_div, q_mod, q_pow, q_shl, q_lt, q_le, q_gt, q_ge, q_max2, q_min2, q_neg, q_abs, q_intI, q_intB, q_lenT, q_lenL, q_ixT, q_ixL, q_tupL, q_tupT, q_lstL, q_lstT, q_isN, q_gL, q_gT, q_gEnL, q_eq, q_ne, okMod_iff, okAll_iff, okPow_iff, okR_iff, at0, at1, at2, at3, at4, at5, is_int_non, is_int_bl, is_int_int, is_int_str, is_int_tup, is_int_lst, is_bool_non, is_bool_bl, is_bool_int, is_bool_str, is_bool_tup, is_bool_lst, is_str_non, is_str_bl, is_str_int, is_str_str, is_str_tup, is_str_lst, is_tuple_non, is_tuple_bl, is_tuple_int, is_tuple_str, is_tuple_tup, is_tuple_lst, is_list_non, is_list_bl, is_list_int, is_list_str, is_list_tup, is_list_lst, List.map_cons, List.map_nil, List.length_cons, List.length_nil, List.cons_append, List.nil_append, List.replicate_succ, List.replicate_zero, List.getElem?_cons_zero, List.getElem?_cons_succ, List.set_cons_zero, List.set_cons_succ, List.append_nil, bindP, wipeT, setAll, Nat.reduceSub, Nat.reduceAdd, true_and, and_true, if_true, if_false, Bool.not_true, Bool.not_false, eq_self, ite_true, ite_false, reduceIte, ne_eq, not_false_eq_true, not_true_eq_false, false_or, or_false, true_or, or_true, Bool.false_eq_true]
  refine ⟨le_line (by decide), take_spec hb2 (by decide) (by decide) fun e h3 hb3 e0 e1 => ?_⟩
  have hv : ∃ v : Int, (3 ≤ v ∧ v ≤ 100) ∧ atI [T.int 3, T.int 20, T.int 100] e = some (.int v) := by
    rcases (by omega : e = 0 ∨ e = 1 ∨ e = 2) with rfl | rfl | rfl
    · exact ⟨3, by omega, rfl⟩
    · exact ⟨20, by omega, rfl⟩
    · exact ⟨100, by omega, rfl⟩
  obtain ⟨v, ⟨v0, v1⟩, ev⟩ := hv
  simp only [w_ok, w_bind, w_of, w_fl, w_ite, w_iteN, ex_ite, ex_some, ex_map, ex_bind, w_C, w_V, w_Bin, w_Un, w_Nil, w_Cons, w_Tup, w_Lst, w_Box, w_Of, w_And, w_Or, w_Not, w_True, w_eAnd, w_eOr, w_eNot, w_If, w_Chain, w_oN, w_oS, w_Sl, w_Call, w_CallB, w_eJoin, w_Rev, ex_str, v_nx, v_rt, v_Skip, v_Seq, v_If, v_Ret, v_Expr, v_Set, v_Tp, v_Par, v_For, v_App, v_Mut, v_Ext, v_Put, v_PutB, ex_eqT, ex_eqL, ex_lst, ex_bl, ex_int, if_dec, w_iMap, w_iR1, w_iR2, w_iR3, w_iZ, w_iZE, w_Lc, w_LRg, v_AppPop, w_eJs, w_jsN, w_jsC, q_repL, q_gEnT, q_addT, q_shr, q_and, q_revL, q_revT, q_cat, q_lnL, p_two, q_slL, q_slT, q_add, q_sub, q_mul, q_div, q_mod, q_pow, q_shl, q_lt, q_le, q_gt, q_ge, q_max2, q_min2, q_neg, q_abs, q_intI, q_intB, q_lenT, q_lenL, q_ixT, q_ixL, q_tupL, q_tupT, q_lstL, q_lstT, q_isN, q_gL, q_gT, q_gEnL, q_eq, q_ne, okMod_iff, okAll_iff, okPow_iff, okR_iff, at0, at1, at2, at3, at4, at5, is_int_non, is_int_bl, is_int_int, is_int_str, is_int_tup, is_int_lst, is_bool_non, is_bool_bl, is_bool_int, is_bool_str, is_bool_tup, is_bool_lst, is_str_non, is_str_bl, is_str_int, is_str_str, is_str_tup, is_str_lst, is_tuple_non, is_tuple_bl, is_tuple_int, is_tuple_str, is_tuple_tup, is_tuple_lst, is_list_non, is_list_bl, is_list_int, is_list_str, is_list_tup, is_list_lst, List.map_cons, List.map_nil, List.length_cons, List.length_nil, List.cons_append, List.nil_append, List.replicate_succ, List.replicate_zero, List.getElem?_cons_zero, List.getElem?_cons_succ, List.set_cons_zero, List.set_cons_succ, List.append_nil, bindP, wipeT, setAll, Nat.reduceSub, Nat.reduceAdd, true_and, and_true, if_true, if_false, Bool.not_true, Bool.not_false, eq_self, ite_true, ite_false, reduceIte, ne_eq, not_false_eq_true, not_true_eq_false, false_or, or_false, true_or, or_true, Bool.false_eq_true, ev]
  unfold f__law_item_r2
  simp only [w_ok, w_bind, w_of, w_fl, w_ite, w_iteN, ex_ite, ex_some, ex_map, ex_bind, w_C, w_V, w_Bin, w_Un, w_Nil, w_Cons, w_Tup, w_Lst, w_Box, w_Of, w_And, w_Or, w_Not, w_True, w_eAnd, w_eOr, w_eNot, w_If, w_Chain, w_oN, w_oS, w_Sl, w_Call, w_CallB, w_eJoin, w_Rev, ex_str, v_nx, v_rt, v_Skip, v_Seq, v_If, v_Ret, v_Expr, v_Set, v_Tp, v_Par, v_For, v_App, v_Mut, v_Ext, v_Put, v_PutB, ex_eqT, ex_eqL, ex_lst, ex_bl, ex_int, if_dec, w_iMap, w_iR1, w_iR2, w_iR3, w_iZ, w_iZE, w_Lc, w_LRg, v_AppPop, w_eJs, w_jsN, w_jsC, q_repL, q_gEnT, q_addT, q_shr, q_and, q_revL, q_revT, q_cat, q_lnL, p_two, q_slL, q_slT, q_add, q_sub, q_mul, q_div, q_mod, q_pow, q_shl, q_lt, q_le, q_gt, q_ge, q_max2, q_min2, q_neg, q_abs, q_intI, q_intB, q_lenT, q_lenL, q_ixT, q_ixL, q_tupL, q_tupT, q_lstL, q_lstT, q_isN, q_gL, q_gT, q_gEnL, q_eq, q_ne, okMod_iff, okAll_iff, okPow_iff, okR_iff, at0, at1, at2, at3, at4, at5, is_int_non, is_int_bl, is_int_int, is_int_str, is_int_tup, is_int_lst, is_bool_non, is_bool_bl, is_bool_int, is_bool_str, is_bool_tup, is_bool_lst, is_str_non, is_str_bl, is_str_int, is_str_str, is_str_tup, is_str_lst, is_tuple_non, is_tuple_bl, is_tuple_int, is_tuple_str, is_tuple_tup, is_tuple_lst, is_list_non, is_list_bl, is_list_int, is_list_str, is_list_tup, is_list_lst, List.map_cons, List.map_nil, List.length_cons, List.length_nil, List.cons_append, List.nil_append, List.replicate_succ, List.replicate_zero, List.getElem?_cons_zero, List.getElem?_cons_succ, List.set_cons_zero, List.set_cons_succ, List.append_nil, bindP, wipeT, setAll, Nat.reduceSub, Nat.reduceAdd, true_and, and_true, if_true, if_false, Bool.not_true, Bool.not_false, eq_self, ite_true, ite_false, reduceIte, ne_eq, not_false_eq_true, not_true_eq_false, false_or, or_false, true_or, or_true, Bool.false_eq_true]
  refine ⟨⟨by omega, by omega⟩, ?_⟩
  refine (lc_all (fun h => Bag h n) (fun _ y => ∃ d, y = T.int d ∧ -100 ≤ d ∧ d ≤ 100) hb3 ?_).imp ?_
  · intro t mt h4 hb4
    refine ⟨_, rfl, ?_⟩
    unfold f__law_item_e1
    simp only [w_ok, w_bind, w_of, w_fl, w_ite, w_iteN, ex_ite, ex_some, ex_map, ex_bind, w_C, w_V, w_Bin, w_Un, w_Nil, w_Cons, w_Tup, w_Lst, w_Box, w_Of, w_And, w_Or, w_Not, w_True, w_eAnd, w_eOr, w_eNot, w_If, w_Chain, w_oN, w_oS, w_Sl, w_Call, w_CallB, w_eJoin, w_Rev, ex_str, v_nx, v_rt, v_Skip, v_Seq, v_If, v_Ret, v_Expr, v_Set, v_Tp, v_Par, v_For, v_App, v_Mut, v_Ext, v_Put, v_PutB, ex_eqT, ex_eqL, ex_lst, ex_bl, ex_int, if_dec, w_iMap, w_iR1, w_iR2, w_iR3, w_iZ, w_iZE, w_Lc, w_LRg, v_AppPop, w_eJs, w_jsN, w_jsC, q_repL, q_gEnT, q_addT, q_shr, q_and, q_revL, q_revT, q_cat, q_lnL, p_two, q_slL, q_slT, q_add, q_sub, q_mul, q_div, q_mod, q_pow, q_shl, q_lt, q_le, q_gt, q_ge, q_max2, q_min2, q_neg, q_abs, q_intI, q_intB, q_lenT, q_lenL, q_ixT, q_ixL, q_tupL, q_tupT, q_lstL, q_lstT, q_isN, q_gL, q_gT, q_gEnL, q_eq, q_ne, okMod_iff, okAll_iff, okPow_iff, okR_iff, at0, at1, at2, at3, at4, at5, is_int_non, is_int_bl, is_int_int, is_int_str, is_int_tup, is_int_lst, is_bool_non, is_bool_bl, is_bool_int, is_bool_str, is_bool_tup, is_bool_lst, is_str_non, is_str_bl, is_str_int, is_str_str, is_str_tup, is_str_lst, is_tuple_non, is_tuple_bl, is_tuple_int, is_tuple_str, is_tuple_tup, is_tuple_lst, is_list_non, is_list_bl, is_list_int, is_list_str, is_list_tup, is_list_lst, List.map_cons, List.map_nil, List.length_cons, List.length_nil, List.cons_append, List.nil_append, List.replicate_succ, List.replicate_zero, List.getElem?_cons_zero, List.getElem?_cons_succ, List.set_cons_zero, List.set_cons_succ, List.append_nil, bindP, wipeT, setAll, Nat.reduceSub, Nat.reduceAdd, true_and, and_true, if_true, if_false, Bool.not_true, Bool.not_false, eq_self, ite_true, ite_false, reduceIte, ne_eq, not_false_eq_true, not_true_eq_false, false_or, or_false, true_or, or_true, Bool.false_eq_true]
    refine ⟨okMul_10 (by omega) (by omega) (by omega) (by omega), ?_⟩
    refine take_spec hb4 (by omega) (by omega) fun d h' hb' d0 d1 => ?_
    simp only [w_ok, w_bind, w_of, w_fl, w_ite, w_iteN, ex_ite, ex_some, ex_map, ex_bind, w_C, w_V, w_Bin, w_Un, w_Nil, w_Cons, w_Tup, w_Lst, w_Box, w_Of, w_And, w_Or, w_Not, w_True, w_eAnd, w_eOr, w_eNot, w_If, w_Chain, w_oN, w_oS, w_Sl, w_Call, w_CallB, w_eJoin, w_Rev, ex_str, v_nx, v_rt, v_Skip, v_Seq, v_If, v_Ret, v_Expr, v_Set, v_Tp, v_Par, v_For, v_App, v_Mut, v_Ext, v_Put, v_PutB, ex_eqT, ex_eqL, ex_lst, ex_bl, ex_int, if_dec, w_iMap, w_iR1, w_iR2, w_iR3, w_iZ, w_iZE, w_Lc, w_LRg, v_AppPop, w_eJs, w_jsN, w_jsC, q_repL, q_gEnT, q_addT, q_shr, q_and, q_revL, q_revT, q_cat, q_lnL, p_two, q_slL, q_slT, q_add, q_sub, q_mul, q_div, q_mod, q_pow, q_shl, q_lt, q_le, q_gt, q_ge, q_max2, q_min2, q_neg, q_abs, q_intI, q_intB, q_lenT, q_lenL, q_ixT, q_ixL, q_tupL, q_tupT, q_lstL, q_lstT, q_isN, q_gL, q_gT, q_gEnL, q_eq, q_ne, okMod_iff, okAll_iff, okPow_iff, okR_iff, at0, at1, at2, at3, at4, at5, is_int_non, is_int_bl, is_int_int, is_int_str, is_int_tup, is_int_lst, is_bool_non, is_bool_bl, is_bool_int, is_bool_str, is_bool_tup, is_bool_lst, is_str_non, is_str_bl, is_str_int, is_str_str, is_str_tup, is_str_lst, is_tuple_non, is_tuple_bl, is_tuple_int, is_tuple_str, is_tuple_tup, is_tuple_lst, is_list_non, is_list_bl, is_list_int, is_list_str, is_list_tup, is_list_lst, List.map_cons, List.map_nil, List.length_cons, List.length_nil, List.cons_append, List.nil_append, List.replicate_succ, List.replicate_zero, List.getElem?_cons_zero, List.getElem?_cons_succ, List.set_cons_zero, List.set_cons_succ, List.append_nil, bindP, wipeT, setAll, Nat.reduceSub, Nat.reduceAdd, true_and, and_true, if_true, if_false, Bool.not_true, Bool.not_false, eq_self, ite_true, ite_false, reduceIte, ne_eq, not_false_eq_true, not_true_eq_false, false_or, or_false, true_or, or_true, Bool.false_eq_true]
    exact ⟨⟨by omega, by omega⟩, hb'⟩
  rintro ys h4 ⟨al, hb4⟩
  obtain ⟨xs, rfl, q1, q2⟩ := all2_ints al
  have ql : (rngL 0 (ax : Int).toNat 1).length = ax := by simp [rngL]
  rw [ql] at q2
  refine ⟨by rw [ql]; exact le_line (by omega), ?_⟩
  try simp only [w_ok, w_bind, w_of, w_fl, w_ite, w_iteN, ex_ite, ex_some, ex_map, ex_bind, w_C, w_V, w_Bin, w_Un, w_Nil, w_Cons, w_Tup, w_Lst, w_Box, w_Of, w_And, w_Or, w_Not, w_True, w_eAnd, w_eOr, w_eNot, w_If, w_Chain, w_oN, w_oS, w_Sl, w_Call, w_CallB, w_eJoin, w_Rev, ex_str, v_nx, v_rt, v_Skip, v_Seq, v_If, v_Ret, v_Expr, v_Set, v_Tp, v_Par, v_For, v_App, v_Mut, v_Ext, v_Put, v_PutB, ex_eqT, ex_eqL, ex_lst, ex_bl, ex_int, if_dec, w_iMap, w_iR1, w_iR2, w_iR3, w_iZ, w_iZE, w_Lc, w_LRg, v_AppPop, w_eJs, w_jsN, w_jsC, q_repL, q_gEnT, q_addT, q_shr, q_and, q_revL, q_revT, q_cat, q_lnL, p_two, q_slL, q_slT, q_add, q_sub, q_mul, q_div, q_mod, q_pow, q_shl, q_lt, q_le, q_gt, q_ge, q_max2, q_min2, q_neg, q_abs, q_intI, q_intB, q_lenT, q_lenL, q_ixT, q_ixL, q_tupL, q_tupT, q_lstL, q_lstT, q_isN, q_gL, q_gT, q_gEnL, q_eq, q_ne, okMod_iff, okAll_iff, okPow_iff, okR_iff, at0, at1, at2, at3, at4, at5, is_int_non, is_int_bl, is_int_int, is_int_str, is_int_tup, is_int_lst, is_bool_non, is_bool_bl, is_bool_int, is_bool_str, is_bool_tup, is_bool_lst, is_str_non, is_str_bl, is_str_int, is_str_str, is_str_tup, is_str_lst, is_tuple_non, is_tuple_bl, is_tuple_int, is_tuple_str, is_tuple_tup, is_tuple_lst, is_list_non, is_list_bl, is_list_int, is_list_str, is_list_tup, is_list_lst, List.map_cons, List.map_nil, List.length_cons, List.length_nil, List.cons_append, List.nil_append, List.replicate_succ, List.replicate_zero, List.getElem?_cons_zero, List.getElem?_cons_succ, List.set_cons_zero, List.set_cons_succ, List.append_nil, bindP, wipeT, setAll, Nat.reduceSub, Nat.reduceAdd, true_and, and_true, if_true, if_false, Bool.not_true, Bool.not_false, eq_self, ite_true, ite_false, reduceIte, ne_eq, not_false_eq_true, not_true_eq_false, false_or, or_false, true_or, or_true, Bool.false_eq_true]
  unfold f__law_item_r1
  have fin : ∀ (xs : List Int) (h' : IH), Bag h' n → xs.length = ax → (∀ x ∈ xs, -100 ≤ x ∧ x ≤ 100) → (∃ x ∈ xs, x ≠ 0) → P (itT (.line xs (1 + s))) h' := fun xs h' hb' lx bx nz => p _ h' hb' ⟨lx, bx, nz, by omega, by omega⟩ (fun z => by cases z) trivial
  simp only [v_Seq, v_If, w_ok, w_bind, w_of, w_fl, w_ite, w_iteN, ex_ite, ex_some, ex_map, ex_bind, w_C, w_V, w_Bin, w_Un, w_Nil, w_Cons, w_Tup, w_Lst, w_Box, w_Of, w_And, w_Or, w_Not, w_True, w_eAnd, w_eOr, w_eNot, w_If, w_Chain, w_oN, w_oS, w_Sl, w_Call, w_CallB, w_eJoin, w_Rev, ex_str, v_nx, v_rt, v_Skip, v_Seq, v_If, v_Ret, v_Expr, v_Set, v_Tp, v_Par, v_For, v_App, v_Mut, v_Ext, v_Put, v_PutB, ex_eqT, ex_eqL, ex_lst, ex_bl, ex_int, if_dec, w_iMap, w_iR1, w_iR2, w_iR3, w_iZ, w_iZE, w_Lc, w_LRg, v_AppPop, w_eJs, w_jsN, w_jsC, q_repL, q_gEnT, q_addT, q_shr, q_and, q_revL, q_revT, q_cat, q_lnL, p_two, q_slL, q_slT, q_add, q_sub, q_mul, q_div, q_mod, q_pow, q_shl, q_lt, q_le, q_gt, q_ge, q_max2, q_min2, q_neg, q_abs, q_intI, q_intB, q_lenT, q_lenL, q_ixT, q_ixL, q_tupL, q_tupT, q_lstL, q_lstT, q_isN, q_gL, q_gT, q_gEnL, q_eq, q_ne, okMod_iff, okAll_iff, okPow_iff, okR_iff, at0, at1, at2, at3, at4, at5, is_int_non, is_int_bl, is_int_int, is_int_str, is_int_tup, is_int_lst, is_bool_non, is_bool_bl, is_bool_int, is_bool_str, is_bool_tup, is_bool_lst, is_str_non, is_str_bl, is_str_int, is_str_str, is_str_tup, is_str_lst, is_tuple_non, is_tuple_bl, is_tuple_int, is_tuple_str, is_tuple_tup, is_tuple_lst, is_list_non, is_list_bl, is_list_int, is_list_str, is_list_tup, is_list_lst, List.map_cons, List.map_nil, List.length_cons, List.length_nil, List.cons_append, List.nil_append, List.replicate_succ, List.replicate_zero, List.getElem?_cons_zero, List.getElem?_cons_succ, List.set_cons_zero, List.set_cons_succ, List.append_nil, bindP, wipeT, setAll, Nat.reduceSub, Nat.reduceAdd, true_and, and_true, if_true, if_false, Bool.not_true, Bool.not_false, eq_self, ite_true, ite_false, reduceIte, ne_eq, not_false_eq_true, not_true_eq_false, false_or, or_false, true_or, or_true, Bool.false_eq_true, q_anyI]
  cases ea : xs.any (· != 0) with
  | true =>
    simp only [v_If, w_ok, w_bind, w_of, w_fl, w_ite, w_iteN, ex_ite, ex_some, ex_map, ex_bind, w_C, w_V, w_Bin, w_Un, w_Nil, w_Cons, w_Tup, w_Lst, w_Box, w_Of, w_And, w_Or, w_Not, w_True, w_eAnd, w_eOr, w_eNot, w_If, w_Chain, w_oN, w_oS, w_Sl, w_Call, w_CallB, w_eJoin, w_Rev, ex_str, v_nx, v_rt, v_Skip, v_Seq, v_If, v_Ret, v_Expr, v_Set, v_Tp, v_Par, v_For, v_App, v_Mut, v_Ext, v_Put, v_PutB, ex_eqT, ex_eqL, ex_lst, ex_bl, ex_int, if_dec, w_iMap, w_iR1, w_iR2, w_iR3, w_iZ, w_iZE, w_Lc, w_LRg, v_AppPop, w_eJs, w_jsN, w_jsC, q_repL, q_gEnT, q_addT, q_shr, q_and, q_revL, q_revT, q_cat, q_lnL, p_two, q_slL, q_slT, q_add, q_sub, q_mul, q_div, q_mod, q_pow, q_shl, q_lt, q_le, q_gt, q_ge, q_max2, q_min2, q_neg, q_abs, q_intI, q_intB, q_lenT, q_lenL, q_ixT, q_ixL, q_tupL, q_tupT, q_lstL, q_lstT, q_isN, q_gL, q_gT, q_gEnL, q_eq, q_ne, okMod_iff, okAll_iff, okPow_iff, okR_iff, at0, at1, at2, at3, at4, at5, is_int_non, is_int_bl, is_int_int, is_int_str, is_int_tup, is_int_lst, is_bool_non, is_bool_bl, is_bool_int, is_bool_str, is_bool_tup, is_bool_lst, is_str_non, is_str_bl, is_str_int, is_str_str, is_str_tup, is_str_lst, is_tuple_non, is_tuple_bl, is_tuple_int, is_tuple_str, is_tuple_tup, is_tuple_lst, is_list_non, is_list_bl, is_list_int, is_list_str, is_list_tup, is_list_lst, List.map_cons, List.map_nil, List.length_cons, List.length_nil, List.cons_append, List.nil_append, List.replicate_succ, List.replicate_zero, List.getElem?_cons_zero, List.getElem?_cons_succ, List.set_cons_zero, List.set_cons_succ, List.append_nil, bindP, wipeT, setAll, Nat.reduceSub, Nat.reduceAdd, true_and, and_true, if_true, if_false, Bool.not_true, Bool.not_false, eq_self, ite_true, ite_false, reduceIte, ne_eq, not_false_eq_true, not_true_eq_false, false_or, or_false, true_or, or_true, Bool.false_eq_true]
    obtain ⟨x, mx, hx⟩ := List.any_eq_true.mp ea
    exact ⟨three_line, fin xs h4 hb4 q2 q1 ⟨x, mx, by simpa using hx⟩⟩
  | false =>
    simp only [v_If, w_ok, w_bind, w_of, w_fl, w_ite, w_iteN, ex_ite, ex_some, ex_map, ex_bind, w_C, w_V, w_Bin, w_Un, w_Nil, w_Cons, w_Tup, w_Lst, w_Box, w_Of, w_And, w_Or, w_Not, w_True, w_eAnd, w_eOr, w_eNot, w_If, w_Chain, w_oN, w_oS, w_Sl, w_Call, w_CallB, w_eJoin, w_Rev, ex_str, v_nx, v_rt, v_Skip, v_Seq, v_If, v_Ret, v_Expr, v_Set, v_Tp, v_Par, v_For, v_App, v_Mut, v_Ext, v_Put, v_PutB, ex_eqT, ex_eqL, ex_lst, ex_bl, ex_int, if_dec, w_iMap, w_iR1, w_iR2, w_iR3, w_iZ, w_iZE, w_Lc, w_LRg, v_AppPop, w_eJs, w_jsN, w_jsC, q_repL, q_gEnT, q_addT, q_shr, q_and, q_revL, q_revT, q_cat, q_lnL, p_two, q_slL, q_slT, q_add, q_sub, q_mul, q_div, q_mod, q_pow, q_shl, q_lt, q_le, q_gt, q_ge, q_max2, q_min2, q_neg, q_abs, q_intI, q_intB, q_lenT, q_lenL, q_ixT, q_ixL, q_tupL, q_tupT, q_lstL, q_lstT, q_isN, q_gL, q_gT, q_gEnL, q_eq, q_ne, okMod_iff, okAll_iff, okPow_iff, okR_iff, at0, at1, at2, at3, at4, at5, is_int_non, is_int_bl, is_int_int, is_int_str, is_int_tup, is_int_lst, is_bool_non, is_bool_bl, is_bool_int, is_bool_str, is_bool_tup, is_bool_lst, is_str_non, is_str_bl, is_str_int, is_str_str, is_str_tup, is_str_lst, is_tuple_non, is_tuple_bl, is_tuple_int, is_tuple_str, is_tuple_tup, is_tuple_lst, is_list_non, is_list_bl, is_list_int, is_list_str, is_list_tup, is_list_lst, List.map_cons, List.map_nil, List.length_cons, List.length_nil, List.cons_append, List.nil_append, List.replicate_succ, List.replicate_zero, List.getElem?_cons_zero, List.getElem?_cons_succ, List.set_cons_zero, List.set_cons_succ, List.append_nil, bindP, wipeT, setAll, Nat.reduceSub, Nat.reduceAdd, true_and, and_true, if_true, if_false, Bool.not_true, Bool.not_false, eq_self, ite_true, ite_false, reduceIte, ne_eq, not_false_eq_true, not_true_eq_false, false_or, or_false, true_or, or_true, Bool.false_eq_true, List.length_map]
    refine take_spec hb4 (by omega) (by omega) fun j h5 hb5 j0 j1 => ?_
    obtain ⟨i, rfl⟩ : ∃ i : Nat, j = (i : Int) := ⟨j.toNat, by omega⟩
    have ix : ixN xs.length (i : Int) = some i := ix_nat (by omega)
    have em : ∀ w : Int, (xs.map T.int).set i (T.int w) = (xs.set i w).map T.int := fun w => by rw [← List.map_set]
    simp only [w_ok, w_bind, w_of, w_fl, w_ite, w_iteN, ex_ite, ex_some, ex_map, ex_bind, w_C, w_V, w_Bin, w_Un, w_Nil, w_Cons, w_Tup, w_Lst, w_Box, w_Of, w_And, w_Or, w_Not, w_True, w_eAnd, w_eOr, w_eNot, w_If, w_Chain, w_oN, w_oS, w_Sl, w_Call, w_CallB, w_eJoin, w_Rev, ex_str, v_nx, v_rt, v_Skip, v_Seq, v_If, v_Ret, v_Expr, v_Set, v_Tp, v_Par, v_For, v_App, v_Mut, v_Ext, v_Put, v_PutB, ex_eqT, ex_eqL, ex_lst, ex_bl, ex_int, if_dec, w_iMap, w_iR1, w_iR2, w_iR3, w_iZ, w_iZE, w_Lc, w_LRg, v_AppPop, w_eJs, w_jsN, w_jsC, q_repL, q_gEnT, q_addT, q_shr, q_and, q_revL, q_revT, q_cat, q_lnL, p_two, q_slL, q_slT, q_add, q_sub, q_mul, q_div, q_mod, q_pow, q_shl, q_lt, q_le, q_gt, q_ge, q_max2, q_min2, q_neg, q_abs, q_intI, q_intB, q_lenT, q_lenL, q_ixT, q_ixL, q_tupL, q_tupT, q_lstL, q_lstT, q_isN, q_gL, q_gT, q_gEnL, q_eq, q_ne, okMod_iff, okAll_iff, okPow_iff, okR_iff, at0, at1, at2, at3, at4, at5, is_int_non, is_int_bl, is_int_int, is_int_str, is_int_tup, is_int_lst, is_bool_non, is_bool_bl, is_bool_int, is_bool_str, is_bool_tup, is_bool_lst, is_str_non, is_str_bl, is_str_int, is_str_str, is_str_tup, is_str_lst, is_tuple_non, is_tuple_bl, is_tuple_int, is_tuple_str, is_tuple_tup, is_tuple_lst, is_list_non, is_list_bl, is_list_int, is_list_str, is_list_tup, is_list_lst, List.map_cons, List.map_nil, List.length_cons, List.length_nil, List.cons_append, List.nil_append, List.replicate_succ, List.replicate_zero, List.getElem?_cons_zero, List.getElem?_cons_succ, List.set_cons_zero, List.set_cons_succ, List.append_nil, bindP, wipeT, setAll, Nat.reduceSub, Nat.reduceAdd, true_and, and_true, if_true, if_false, Bool.not_true, Bool.not_false, eq_self, ite_true, ite_false, reduceIte, ne_eq, not_false_eq_true, not_true_eq_false, false_or, or_false, true_or, or_true, Bool.false_eq_true, List.length_map, ix, em]
    refine ⟨three_line, fin (xs.set i 1) h5 hb5 (by rw [List.length_set]; exact q2) (fun x mx => ?_) ⟨1, List.mem_iff_getElem.mpr ⟨i, by rw [List.length_set]; omega, by simp⟩, by decide⟩⟩
    rcases List.mem_or_eq_of_mem_set mx with m | rfl
    · exact q1 x m
    · omega
/-! _law_divisor -/
theorem law_divisor_is {a b : Int} {h : IH} : f__law_divisor [.int a, .int b] h = .ok (.int (Int.gcd a b : Int)) h := by
  refine Ok.eq ?_
  unfold f__law_divisor f__law_divisor_b1
  rw [w_runF]
  refine ⟨rfl, ?_⟩
  rw [v_Seq]
  refine gcd_any_wh (by decide) rfl rfl fun a' e => ?_
  simp only [w_ok, w_bind, w_of, w_fl, w_ite, w_iteN, ex_ite, ex_some, ex_map, ex_bind, w_C, w_V, w_Bin, w_Un, w_Nil, w_Cons, w_Tup, w_Lst, w_Box, w_Of, w_And, w_Or, w_Not, w_True, w_eAnd, w_eOr, w_eNot, w_If, w_Chain, w_oN, w_oS, w_Sl, w_Call, w_CallB, w_eJoin, w_Rev, ex_str, v_nx, v_rt, v_Skip, v_Seq, v_If, v_Ret, v_Expr, v_Set, v_Tp, v_Par, v_For, v_App, v_Mut, v_Ext, v_Put, v_PutB, ex_eqT, ex_eqL, ex_lst, ex_bl, ex_int, if_dec, w_iMap, w_iR1, w_iR2, w_iR3, w_iZ, w_iZE, w_Lc, w_LRg, v_AppPop, w_eJs, w_jsN, w_jsC, q_repL, q_gEnT, q_addT, q_shr, q_and, q_revL, q_revT, q_cat, q_lnL, p_two, q_slL, q_slT, q_add, q_sub, q_mul, q_div, q_mod, q_pow, q_shl, q_lt, q_le, q_gt, q_ge, q_max2, q_min2, q_neg, q_abs, q_intI, q_intB, q_lenT, q_lenL, q_ixT, q_ixL, q_tupL, q_tupT, q_lstL, q_lstT, q_isN, q_gL, q_gT, q_gEnL, q_eq, q_ne, okMod_iff, okAll_iff, okPow_iff, okR_iff, at0, at1, at2, at3, at4, at5, is_int_non, is_int_bl, is_int_int, is_int_str, is_int_tup, is_int_lst, is_bool_non, is_bool_bl, is_bool_int, is_bool_str, is_bool_tup, is_bool_lst, is_str_non, is_str_bl, is_str_int, is_str_str, is_str_tup, is_str_lst, is_tuple_non, is_tuple_bl, is_tuple_int, is_tuple_str, is_tuple_tup, is_tuple_lst, is_list_non, is_list_bl, is_list_int, is_list_str, is_list_tup, is_list_lst, List.map_cons, List.map_nil, List.length_cons, List.length_nil, List.cons_append, List.nil_append, List.replicate_succ, List.replicate_zero, List.getElem?_cons_zero, List.getElem?_cons_succ, List.set_cons_zero, List.set_cons_succ, List.append_nil, bindP, wipeT, setAll, Nat.reduceSub, Nat.reduceAdd, true_and, and_true, if_true, if_false, Bool.not_true, Bool.not_false, eq_self, ite_true, ite_false, reduceIte, ne_eq, not_false_eq_true, not_true_eq_false, false_or, or_false, true_or, or_true, Bool.false_eq_true, e]
/-! _law_lowest -/
theorem lowest_is {p q : Int} {h : IH} (q0 : 0 < q) (q1 : q < 10 ^ 69) : f__law_lowest [.int p, .int q] h = .ok (lowT p q) h := by
  refine Ok.eq ?_
  have g0 := gcd_pos_of (p := p) q0
  have g1 := gcd_le (p := p) q0
  unfold f__law_lowest
  rw [w_runF]
  refine ⟨rfl, ?_⟩
  simp only [v_Seq, v_If, w_ok, w_bind, w_of, w_fl, w_ite, w_iteN, ex_ite, ex_some, ex_map, ex_bind, w_C, w_V, w_Bin, w_Un, w_Nil, w_Cons, w_Tup, w_Lst, w_Box, w_Of, w_And, w_Or, w_Not, w_True, w_eAnd, w_eOr, w_eNot, w_If, w_Chain, w_oN, w_oS, w_Sl, w_Call, w_CallB, w_eJoin, w_Rev, ex_str, v_nx, v_rt, v_Skip, v_Seq, v_If, v_Ret, v_Expr, v_Set, v_Tp, v_Par, v_For, v_App, v_Mut, v_Ext, v_Put, v_PutB, ex_eqT, ex_eqL, ex_lst, ex_bl, ex_int, if_dec, w_iMap, w_iR1, w_iR2, w_iR3, w_iZ, w_iZE, w_Lc, w_LRg, v_AppPop, w_eJs, w_jsN, w_jsC, q_repL, q_gEnT, q_addT, q_shr, q_and, q_revL, q_revT, q_cat, q_lnL, p_two, q_slL, q_slT, q_add, q_sub, q_mul, q_div, q_mod, q_pow, q_shl, q_lt, q_le, q_gt, q_ge, q_max2, q_min2, q_neg, q_abs, q_intI, q_intB, q_lenT, q_lenL, q_ixT, q_ixL, q_tupL, q_tupT, q_lstL, q_lstT, q_isN, q_gL, q_gT, q_gEnL, q_eq, q_ne, okMod_iff, okAll_iff, okPow_iff, okR_iff, at0, at1, at2, at3, at4, at5, is_int_non, is_int_bl, is_int_int, is_int_str, is_int_tup, is_int_lst, is_bool_non, is_bool_bl, is_bool_int, is_bool_str, is_bool_tup, is_bool_lst, is_str_non, is_str_bl, is_str_int, is_str_str, is_str_tup, is_str_lst, is_tuple_non, is_tuple_bl, is_tuple_int, is_tuple_str, is_tuple_tup, is_tuple_lst, is_list_non, is_list_bl, is_list_int, is_list_str, is_list_tup, is_list_lst, List.map_cons, List.map_nil, List.length_cons, List.length_nil, List.cons_append, List.nil_append, List.replicate_succ, List.replicate_zero, List.getElem?_cons_zero, List.getElem?_cons_succ, List.set_cons_zero, List.set_cons_succ, List.append_nil, bindP, wipeT, setAll, Nat.reduceSub, Nat.reduceAdd, true_and, and_true, if_true, if_false, Bool.not_true, Bool.not_false, eq_self, ite_true, ite_false, reduceIte, ne_eq, not_false_eq_true, not_true_eq_false, false_or, or_false, true_or, or_true, Bool.false_eq_true, law_divisor_is]
  rw [if_neg (by omega), fdiv_p (by omega), fdiv_p (by omega)]
  exact ⟨okDiv_10 g0 (by omega), okDiv_10 g0 (by omega), two_line, rfl⟩
theorem lowest_neg {p q : Int} {h : IH} (q0 : q < 0) (q1 : -(10 ^ 69) < q) : f__law_lowest [.int p, .int q] h = .ok (lowT (-p) (-q)) h := by
  refine Ok.eq ?_
  have g0 := gcd_pos_of (p := -p) (q := -q) (by omega)
  have g1 := gcd_le (p := -p) (q := -q) (by omega)
  have ge : Int.gcd (-p) (-q) = Int.gcd p q := by rw [Int.neg_gcd, Int.gcd_neg]
  rw [ge] at g0 g1
  have ok : ∀ a : Int, okDiv a (-(Int.gcd p q : Int)) = true := fun a => by
    have := okDiv_10 (a := a) (b := (Int.gcd p q : Int)) g0 (by omega)
    unfold okDiv at this ⊢
    rw [decide_eq_true_eq] at this ⊢
    rw [Int.natAbs_neg]
    exact ⟨by omega, this.2⟩
  have fd : ∀ a : Int, a.fdiv (-(Int.gcd p q : Int)) = (-a) / (Int.gcd p q : Int) := fun a => by
    have := Int.neg_fdiv_neg (-a) (Int.gcd p q : Int)
    rw [Int.neg_neg] at this
    rw [this, fdiv_p (by omega)]
  unfold f__law_lowest
  rw [w_runF]
  refine ⟨rfl, ?_⟩
  simp only [v_Seq, v_If, w_ok, w_bind, w_of, w_fl, w_ite, w_iteN, ex_ite, ex_some, ex_map, ex_bind, w_C, w_V, w_Bin, w_Un, w_Nil, w_Cons, w_Tup, w_Lst, w_Box, w_Of, w_And, w_Or, w_Not, w_True, w_eAnd, w_eOr, w_eNot, w_If, w_Chain, w_oN, w_oS, w_Sl, w_Call, w_CallB, w_eJoin, w_Rev, ex_str, v_nx, v_rt, v_Skip, v_Seq, v_If, v_Ret, v_Expr, v_Set, v_Tp, v_Par, v_For, v_App, v_Mut, v_Ext, v_Put, v_PutB, ex_eqT, ex_eqL, ex_lst, ex_bl, ex_int, if_dec, w_iMap, w_iR1, w_iR2, w_iR3, w_iZ, w_iZE, w_Lc, w_LRg, v_AppPop, w_eJs, w_jsN, w_jsC, q_repL, q_gEnT, q_addT, q_shr, q_and, q_revL, q_revT, q_cat, q_lnL, p_two, q_slL, q_slT, q_add, q_sub, q_mul, q_div, q_mod, q_pow, q_shl, q_lt, q_le, q_gt, q_ge, q_max2, q_min2, q_neg, q_abs, q_intI, q_intB, q_lenT, q_lenL, q_ixT, q_ixL, q_tupL, q_tupT, q_lstL, q_lstT, q_isN, q_gL, q_gT, q_gEnL, q_eq, q_ne, okMod_iff, okAll_iff, okPow_iff, okR_iff, at0, at1, at2, at3, at4, at5, is_int_non, is_int_bl, is_int_int, is_int_str, is_int_tup, is_int_lst, is_bool_non, is_bool_bl, is_bool_int, is_bool_str, is_bool_tup, is_bool_lst, is_str_non, is_str_bl, is_str_int, is_str_str, is_str_tup, is_str_lst, is_tuple_non, is_tuple_bl, is_tuple_int, is_tuple_str, is_tuple_tup, is_tuple_lst, is_list_non, is_list_bl, is_list_int, is_list_str, is_list_tup, is_list_lst, List.map_cons, List.map_nil, List.length_cons, List.length_nil, List.cons_append, List.nil_append, List.replicate_succ, List.replicate_zero, List.getElem?_cons_zero, List.getElem?_cons_succ, List.set_cons_zero, List.set_cons_succ, List.append_nil, bindP, wipeT, setAll, Nat.reduceSub, Nat.reduceAdd, true_and, and_true, if_true, if_false, Bool.not_true, Bool.not_false, eq_self, ite_true, ite_false, reduceIte, ne_eq, not_false_eq_true, not_true_eq_false, false_or, or_false, true_or, or_true, Bool.false_eq_true, law_divisor_is]
  rw [if_pos (by omega)]
  simp only [v_Seq, v_If, w_ok, w_bind, w_of, w_fl, w_ite, w_iteN, ex_ite, ex_some, ex_map, ex_bind, w_C, w_V, w_Bin, w_Un, w_Nil, w_Cons, w_Tup, w_Lst, w_Box, w_Of, w_And, w_Or, w_Not, w_True, w_eAnd, w_eOr, w_eNot, w_If, w_Chain, w_oN, w_oS, w_Sl, w_Call, w_CallB, w_eJoin, w_Rev, ex_str, v_nx, v_rt, v_Skip, v_Seq, v_If, v_Ret, v_Expr, v_Set, v_Tp, v_Par, v_For, v_App, v_Mut, v_Ext, v_Put, v_PutB, ex_eqT, ex_eqL, ex_lst, ex_bl, ex_int, if_dec, w_iMap, w_iR1, w_iR2, w_iR3, w_iZ, w_iZE, w_Lc, w_LRg, v_AppPop, w_eJs, w_jsN, w_jsC, q_repL, q_gEnT, q_addT, q_shr, q_and, q_revL, q_revT, q_cat, q_lnL, p_two, q_slL, q_slT, q_add, q_sub, q_mul, q_div, q_mod, q_pow, q_shl, q_lt, q_le, q_gt, q_ge, q_max2, q_min2, q_neg, q_abs, q_intI, q_intB, q_lenT, q_lenL, q_ixT, q_ixL, q_tupL, q_tupT, q_lstL, q_lstT, q_isN, q_gL, q_gT, q_gEnL, q_eq, q_ne, okMod_iff, okAll_iff, okPow_iff, okR_iff, at0, at1, at2, at3, at4, at5, is_int_non, is_int_bl, is_int_int, is_int_str, is_int_tup, is_int_lst, is_bool_non, is_bool_bl, is_bool_int, is_bool_str, is_bool_tup, is_bool_lst, is_str_non, is_str_bl, is_str_int, is_str_str, is_str_tup, is_str_lst, is_tuple_non, is_tuple_bl, is_tuple_int, is_tuple_str, is_tuple_tup, is_tuple_lst, is_list_non, is_list_bl, is_list_int, is_list_str, is_list_tup, is_list_lst, List.map_cons, List.map_nil, List.length_cons, List.length_nil, List.cons_append, List.nil_append, List.replicate_succ, List.replicate_zero, List.getElem?_cons_zero, List.getElem?_cons_succ, List.set_cons_zero, List.set_cons_succ, List.append_nil, bindP, wipeT, setAll, Nat.reduceSub, Nat.reduceAdd, true_and, and_true, if_true, if_false, Bool.not_true, Bool.not_false, eq_self, ite_true, ite_false, reduceIte, ne_eq, not_false_eq_true, not_true_eq_false, false_or, or_false, true_or, or_true, Bool.false_eq_true, fd]
  unfold lowT
  rw [ge]
  exact ⟨ok _, ok _, two_line, rfl⟩
/-! _law_number -/
theorem number_spec {n : Nat} {h : IH} (hb : Bag h n) {P : T → IH → Prop} (p : ∀ (x : Int) (h' : IH), Bag h' n → 0 ≤ x → x < 10 ^ 30 → P (.int x) h') : Ok (f__law_number [.box n] h) P := by
  unfold f__law_number
  rw [w_runF]
  refine ⟨rfl, ?_⟩
  refine seq_mid (fun τ h' => ∃ k, τ = [some (.box n), some (.int k)] ∧ Bag h' n ∧ 0 ≤ k ∧ k < 4) ?_ ?_
  · simp only [w_ok, w_bind, w_of, w_fl, w_ite, w_iteN, ex_ite, ex_some, ex_map, ex_bind, w_C, w_V, w_Bin, w_Un, w_Nil, w_Cons, w_Tup, w_Lst, w_Box, w_Of, w_And, w_Or, w_Not, w_True, w_eAnd, w_eOr, w_eNot, w_If, w_Chain, w_oN, w_oS, w_Sl, w_Call, w_CallB, w_eJoin, w_Rev, ex_str, v_nx, v_rt, v_Skip, v_Seq, v_If, v_Ret, v_Expr, v_Set, v_Tp, v_Par, v_For, v_App, v_Mut, v_Ext, v_Put, v_PutB, ex_eqT, ex_eqL, ex_lst, ex_bl, ex_int, if_dec, w_iMap, w_iR1, w_iR2, w_iR3, w_iZ, w_iZE, w_Lc, w_LRg, v_AppPop, w_eJs, w_jsN, w_jsC, q_repL, q_gEnT, q_addT, q_shr, q_and, q_revL, q_revT, q_cat, q_lnL, p_two, q_slL, q_slT, q_add, q_sub, q_mul, q_div, q_mod, q_pow, q_shl, q_lt, q_le, q_gt, q_ge, q_max2, q_min2, q_neg, q_abs, q_intI, q_intB, q_lenT, q_lenL, q_ixT, q_ixL, q_tupL, q_tupT, q_lstL, q_lstT, q_isN, q_gL, q_gT, q_gEnL, q_eq, q_ne, okMod_iff, okAll_iff, okPow_iff, okR_iff, at0, at1, at2, at3, at4, at5, is_int_non, is_int_bl, is_int_int, is_int_str, is_int_tup, is_int_lst, is_bool_non, is_bool_bl, is_bool_int, is_bool_str, is_bool_tup, is_bool_lst, is_str_non, is_str_bl, is_str_int, is_str_str, is_str_tup, is_str_lst, is_tuple_non, is_tuple_bl, is_tuple_int, is_tuple_str, is_tuple_tup, is_tuple_lst, is_list_non, is_list_bl, is_list_int, is_list_str, is_list_tup, is_list_lst, List.map_cons, List.map_nil, List.length_cons, List.length_nil, List.cons_append, List.nil_append, List.replicate_succ, List.replicate_zero, List.getElem?_cons_zero, List.getElem?_cons_succ, List.set_cons_zero, List.set_cons_succ, List.append_nil, bindP, wipeT, setAll, Nat.reduceSub, Nat.reduceAdd, true_and, and_true, if_true, if_false, Bool.not_true, Bool.not_false, eq_self, ite_true, ite_false, reduceIte, ne_eq, not_false_eq_true, not_true_eq_false, false_or, or_false, true_or, or_true, Bool.false_eq_true]
    exact take_spec hb (by decide) (by decide) fun d h' hb' d0 d1 => ⟨d, rfl, hb', d0, d1⟩
  rintro τ h1 ⟨k, rfl, hb1, k0, k1⟩
  simp only [v_Seq, v_If, w_ok, w_bind, w_of, w_fl, w_ite, w_iteN, ex_ite, ex_some, ex_map, ex_bind, w_C, w_V, w_Bin, w_Un, w_Nil, w_Cons, w_Tup, w_Lst, w_Box, w_Of, w_And, w_Or, w_Not, w_True, w_eAnd, w_eOr, w_eNot, w_If, w_Chain, w_oN, w_oS, w_Sl, w_Call, w_CallB, w_eJoin, w_Rev, ex_str, v_nx, v_rt, v_Skip, v_Seq, v_If, v_Ret, v_Expr, v_Set, v_Tp, v_Par, v_For, v_App, v_Mut, v_Ext, v_Put, v_PutB, ex_eqT, ex_eqL, ex_lst, ex_bl, ex_int, if_dec, w_iMap, w_iR1, w_iR2, w_iR3, w_iZ, w_iZE, w_Lc, w_LRg, v_AppPop, w_eJs, w_jsN, w_jsC, q_repL, q_gEnT, q_addT, q_shr, q_and, q_revL, q_revT, q_cat, q_lnL, p_two, q_slL, q_slT, q_add, q_sub, q_mul, q_div, q_mod, q_pow, q_shl, q_lt, q_le, q_gt, q_ge, q_max2, q_min2, q_neg, q_abs, q_intI, q_intB, q_lenT, q_lenL, q_ixT, q_ixL, q_tupL, q_tupT, q_lstL, q_lstT, q_isN, q_gL, q_gT, q_gEnL, q_eq, q_ne, okMod_iff, okAll_iff, okPow_iff, okR_iff, at0, at1, at2, at3, at4, at5, is_int_non, is_int_bl, is_int_int, is_int_str, is_int_tup, is_int_lst, is_bool_non, is_bool_bl, is_bool_int, is_bool_str, is_bool_tup, is_bool_lst, is_str_non, is_str_bl, is_str_int, is_str_str, is_str_tup, is_str_lst, is_tuple_non, is_tuple_bl, is_tuple_int, is_tuple_str, is_tuple_tup, is_tuple_lst, is_list_non, is_list_bl, is_list_int, is_list_str, is_list_tup, is_list_lst, List.map_cons, List.map_nil, List.length_cons, List.length_nil, List.cons_append, List.nil_append, List.replicate_succ, List.replicate_zero, List.getElem?_cons_zero, List.getElem?_cons_succ, List.set_cons_zero, List.set_cons_succ, List.append_nil, bindP, wipeT, setAll, Nat.reduceSub, Nat.reduceAdd, true_and, and_true, if_true, if_false, Bool.not_true, Bool.not_false, eq_self, ite_true, ite_false, reduceIte, ne_eq, not_false_eq_true, not_true_eq_false, false_or, or_false, true_or, or_true, Bool.false_eq_true]
  split
  · have hv : ∃ v : Int, (1 ≤ v ∧ v ≤ 100) ∧ atI [T.int 7, T.int 100] k = some (.int v) := by
      rcases (by omega : k = 0 ∨ k = 1) with rfl | rfl
      · exact ⟨7, by omega, rfl⟩
      · exact ⟨100, by omega, rfl⟩
    obtain ⟨v, hv, ev⟩ := hv
    simp only [ev, ex_some]
    refine ⟨two_line, take_spec hb1 hv.1 (by omega) fun d h' hb' d0 d1 => p _ _ hb' d0 (by omega)⟩
  split
  · have p30 : (10 : Int) ^ Int.toNat 30 = 10 ^ 30 := rfl
    rw [p30]
    exact ⟨⟨by decide, by decide, by decide⟩, take_spec hb1 (by decide) (by decide) fun d h' hb' d0 d1 => p _ _ hb' d0 (by omega)⟩
  · refine take_spec hb1 (by decide) (by decide) fun d h2 hb2 d0 d1 => ?_
    simp only [w_ok, w_bind, w_of, w_fl, w_ite, w_iteN, ex_ite, ex_some, ex_map, ex_bind, w_C, w_V, w_Bin, w_Un, w_Nil, w_Cons, w_Tup, w_Lst, w_Box, w_Of, w_And, w_Or, w_Not, w_True, w_eAnd, w_eOr, w_eNot, w_If, w_Chain, w_oN, w_oS, w_Sl, w_Call, w_CallB, w_eJoin, w_Rev, ex_str, v_nx, v_rt, v_Skip, v_Seq, v_If, v_Ret, v_Expr, v_Set, v_Tp, v_Par, v_For, v_App, v_Mut, v_Ext, v_Put, v_PutB, ex_eqT, ex_eqL, ex_lst, ex_bl, ex_int, if_dec, w_iMap, w_iR1, w_iR2, w_iR3, w_iZ, w_iZE, w_Lc, w_LRg, v_AppPop, w_eJs, w_jsN, w_jsC, q_repL, q_gEnT, q_addT, q_shr, q_and, q_revL, q_revT, q_cat, q_lnL, p_two, q_slL, q_slT, q_add, q_sub, q_mul, q_div, q_mod, q_pow, q_shl, q_lt, q_le, q_gt, q_ge, q_max2, q_min2, q_neg, q_abs, q_intI, q_intB, q_lenT, q_lenL, q_ixT, q_ixL, q_tupL, q_tupT, q_lstL, q_lstT, q_isN, q_gL, q_gT, q_gEnL, q_eq, q_ne, okMod_iff, okAll_iff, okPow_iff, okR_iff, at0, at1, at2, at3, at4, at5, is_int_non, is_int_bl, is_int_int, is_int_str, is_int_tup, is_int_lst, is_bool_non, is_bool_bl, is_bool_int, is_bool_str, is_bool_tup, is_bool_lst, is_str_non, is_str_bl, is_str_int, is_str_str, is_str_tup, is_str_lst, is_tuple_non, is_tuple_bl, is_tuple_int, is_tuple_str, is_tuple_tup, is_tuple_lst, is_list_non, is_list_bl, is_list_int, is_list_str, is_list_tup, is_list_lst, List.map_cons, List.map_nil, List.length_cons, List.length_nil, List.cons_append, List.nil_append, List.replicate_succ, List.replicate_zero, List.getElem?_cons_zero, List.getElem?_cons_succ, List.set_cons_zero, List.set_cons_succ, List.append_nil, bindP, wipeT, setAll, Nat.reduceSub, Nat.reduceAdd, true_and, and_true, if_true, if_false, Bool.not_true, Bool.not_false, eq_self, ite_true, ite_false, reduceIte, ne_eq, not_false_eq_true, not_true_eq_false, false_or, or_false, true_or, or_true, Bool.false_eq_true]
    refine ⟨⟨d0, by omega, by decide⟩, ?_⟩
    refine take_spec hb2 (by decide) (by decide) fun e h3 hb3 e0 e1 => ?_
    simp only [w_ok, w_bind, w_of, w_fl, w_ite, w_iteN, ex_ite, ex_some, ex_map, ex_bind, w_C, w_V, w_Bin, w_Un, w_Nil, w_Cons, w_Tup, w_Lst, w_Box, w_Of, w_And, w_Or, w_Not, w_True, w_eAnd, w_eOr, w_eNot, w_If, w_Chain, w_oN, w_oS, w_Sl, w_Call, w_CallB, w_eJoin, w_Rev, ex_str, v_nx, v_rt, v_Skip, v_Seq, v_If, v_Ret, v_Expr, v_Set, v_Tp, v_Par, v_For, v_App, v_Mut, v_Ext, v_Put, v_PutB, ex_eqT, ex_eqL, ex_lst, ex_bl, ex_int, if_dec, w_iMap, w_iR1, w_iR2, w_iR3, w_iZ, w_iZE, w_Lc, w_LRg, v_AppPop, w_eJs, w_jsN, w_jsC, q_repL, q_gEnT, q_addT, q_shr, q_and, q_revL, q_revT, q_cat, q_lnL, p_two, q_slL, q_slT, q_add, q_sub, q_mul, q_div, q_mod, q_pow, q_shl, q_lt, q_le, q_gt, q_ge, q_max2, q_min2, q_neg, q_abs, q_intI, q_intB, q_lenT, q_lenL, q_ixT, q_ixL, q_tupL, q_tupT, q_lstL, q_lstT, q_isN, q_gL, q_gT, q_gEnL, q_eq, q_ne, okMod_iff, okAll_iff, okPow_iff, okR_iff, at0, at1, at2, at3, at4, at5, is_int_non, is_int_bl, is_int_int, is_int_str, is_int_tup, is_int_lst, is_bool_non, is_bool_bl, is_bool_int, is_bool_str, is_bool_tup, is_bool_lst, is_str_non, is_str_bl, is_str_int, is_str_str, is_str_tup, is_str_lst, is_tuple_non, is_tuple_bl, is_tuple_int, is_tuple_str, is_tuple_tup, is_tuple_lst, is_list_non, is_list_bl, is_list_int, is_list_str, is_list_tup, is_list_lst, List.map_cons, List.map_nil, List.length_cons, List.length_nil, List.cons_append, List.nil_append, List.replicate_succ, List.replicate_zero, List.getElem?_cons_zero, List.getElem?_cons_succ, List.set_cons_zero, List.set_cons_succ, List.append_nil, bindP, wipeT, setAll, Nat.reduceSub, Nat.reduceAdd, true_and, and_true, if_true, if_false, Bool.not_true, Bool.not_false, eq_self, ite_true, ite_false, reduceIte, ne_eq, not_false_eq_true, not_true_eq_false, false_or, or_false, true_or, or_true, Bool.false_eq_true]
    have hp : (2 : Int) ^ d.toNat < 2 ^ 99 := Int.pow_lt_pow_of_lt (by decide) (by omega : d.toNat < 99)
    have hp1 : (0 : Int) < 2 ^ d.toNat := Int.pow_pos (by decide)
    exact p _ _ hb3 (by omega) (by omega)
/-! _law_fraction -/
theorem fraction_spec {n : Nat} {h : IH} (hb : Bag h n) {P : T → IH → Prop} (p : ∀ (u l : Int) (h' : IH), Bag h' n → FqB (10 ^ 30) u l → P (frT u l) h') : Ok (f__law_fraction [.box n] h) P := by
  unfold f__law_fraction
  rw [w_runF]
  refine ⟨rfl, ?_⟩
  refine seq_mid (fun τ h' => ∃ k, τ = [some (.box n), some (.int k)] ∧ Bag h' n ∧ -1 ≤ k ∧ k ≤ 1) ?_ ?_
  · simp only [w_ok, w_bind, w_of, w_fl, w_ite, w_iteN, ex_ite, ex_some, ex_map, ex_bind, w_C, w_V, w_Bin, w_Un, w_Nil, w_Cons, w_Tup, w_Lst, w_Box, w_Of, w_And, w_Or, w_Not, w_True, w_eAnd, w_eOr, w_eNot, w_If, w_Chain, w_oN, w_oS, w_Sl, w_Call, w_CallB, w_eJoin, w_Rev, ex_str, v_nx, v_rt, v_Skip, v_Seq, v_If, v_Ret, v_Expr, v_Set, v_Tp, v_Par, v_For, v_App, v_Mut, v_Ext, v_Put, v_PutB, ex_eqT, ex_eqL, ex_lst, ex_bl, ex_int, if_dec, w_iMap, w_iR1, w_iR2, w_iR3, w_iZ, w_iZE, w_Lc, w_LRg, v_AppPop, w_eJs, w_jsN, w_jsC, q_repL, q_gEnT, q_addT, q_shr, q_and, q_revL, q_revT, q_cat, q_lnL, p_two, q_slL, q_slT, q_add, q_sub, q_mul, q_div, q_mod, q_pow, q_shl, q_lt, q_le, q_gt, q_ge, q_max2, q_min2, q_neg, q_abs, q_intI, q_intB, q_lenT, q_lenL, q_ixT, q_ixL, q_tupL, q_tupT, q_lstL, q_lstT, q_isN, q_gL, q_gT, q_gEnL, q_eq, q_ne, okMod_iff, okAll_iff, okPow_iff, okR_iff, at0, at1, at2, at3, at4, at5, is_int_non, is_int_bl, is_int_int, is_int_str, is_int_tup, is_int_lst, is_bool_non, is_bool_bl, is_bool_int, is_bool_str, is_bool_tup, is_bool_lst, is_str_non, is_str_bl, is_str_int, is_str_str, is_str_tup, is_str_lst, is_tuple_non, is_tuple_bl, is_tuple_int, is_tuple_str, is_tuple_tup, is_tuple_lst, is_list_non, is_list_bl, is_list_int, is_list_str, is_list_tup, is_list_lst, List.map_cons, List.map_nil, List.length_cons, List.length_nil, List.cons_append, List.nil_append, List.replicate_succ, List.replicate_zero, List.getElem?_cons_zero, List.getElem?_cons_succ, List.set_cons_zero, List.set_cons_succ, List.append_nil, bindP, wipeT, setAll, Nat.reduceSub, Nat.reduceAdd, true_and, and_true, if_true, if_false, Bool.not_true, Bool.not_false, eq_self, ite_true, ite_false, reduceIte, ne_eq, not_false_eq_true, not_true_eq_false, false_or, or_false, true_or, or_true, Bool.false_eq_true]
    refine take_spec hb (by decide) (by decide) fun d h' hb' d0 d1 => ?_
    simp only [w_ok, w_bind, w_of, w_fl, w_ite, w_iteN, ex_ite, ex_some, ex_map, ex_bind, w_C, w_V, w_Bin, w_Un, w_Nil, w_Cons, w_Tup, w_Lst, w_Box, w_Of, w_And, w_Or, w_Not, w_True, w_eAnd, w_eOr, w_eNot, w_If, w_Chain, w_oN, w_oS, w_Sl, w_Call, w_CallB, w_eJoin, w_Rev, ex_str, v_nx, v_rt, v_Skip, v_Seq, v_If, v_Ret, v_Expr, v_Set, v_Tp, v_Par, v_For, v_App, v_Mut, v_Ext, v_Put, v_PutB, ex_eqT, ex_eqL, ex_lst, ex_bl, ex_int, if_dec, w_iMap, w_iR1, w_iR2, w_iR3, w_iZ, w_iZE, w_Lc, w_LRg, v_AppPop, w_eJs, w_jsN, w_jsC, q_repL, q_gEnT, q_addT, q_shr, q_and, q_revL, q_revT, q_cat, q_lnL, p_two, q_slL, q_slT, q_add, q_sub, q_mul, q_div, q_mod, q_pow, q_shl, q_lt, q_le, q_gt, q_ge, q_max2, q_min2, q_neg, q_abs, q_intI, q_intB, q_lenT, q_lenL, q_ixT, q_ixL, q_tupL, q_tupT, q_lstL, q_lstT, q_isN, q_gL, q_gT, q_gEnL, q_eq, q_ne, okMod_iff, okAll_iff, okPow_iff, okR_iff, at0, at1, at2, at3, at4, at5, is_int_non, is_int_bl, is_int_int, is_int_str, is_int_tup, is_int_lst, is_bool_non, is_bool_bl, is_bool_int, is_bool_str, is_bool_tup, is_bool_lst, is_str_non, is_str_bl, is_str_int, is_str_str, is_str_tup, is_str_lst, is_tuple_non, is_tuple_bl, is_tuple_int, is_tuple_str, is_tuple_tup, is_tuple_lst, is_list_non, is_list_bl, is_list_int, is_list_str, is_list_tup, is_list_lst, List.map_cons, List.map_nil, List.length_cons, List.length_nil, List.cons_append, List.nil_append, List.replicate_succ, List.replicate_zero, List.getElem?_cons_zero, List.getElem?_cons_succ, List.set_cons_zero, List.set_cons_succ, List.append_nil, bindP, wipeT, setAll, Nat.reduceSub, Nat.reduceAdd, true_and, and_true, if_true, if_false, Bool.not_true, Bool.not_false, eq_self, ite_true, ite_false, reduceIte, ne_eq, not_false_eq_true, not_true_eq_false, false_or, or_false, true_or, or_true, Bool.false_eq_true]
    exact ⟨okMul_10 (by omega) (by omega) (by omega) (by omega), _, rfl, hb', by omega, by omega⟩
  rintro τ h1 ⟨k, rfl, hb1, k0, k1⟩
  simp only [v_Seq, v_If, w_ok, w_bind, w_of, w_fl, w_ite, w_iteN, ex_ite, ex_some, ex_map, ex_bind, w_C, w_V, w_Bin, w_Un, w_Nil, w_Cons, w_Tup, w_Lst, w_Box, w_Of, w_And, w_Or, w_Not, w_True, w_eAnd, w_eOr, w_eNot, w_If, w_Chain, w_oN, w_oS, w_Sl, w_Call, w_CallB, w_eJoin, w_Rev, ex_str, v_nx, v_rt, v_Skip, v_Seq, v_If, v_Ret, v_Expr, v_Set, v_Tp, v_Par, v_For, v_App, v_Mut, v_Ext, v_Put, v_PutB, ex_eqT, ex_eqL, ex_lst, ex_bl, ex_int, if_dec, w_iMap, w_iR1, w_iR2, w_iR3, w_iZ, w_iZE, w_Lc, w_LRg, v_AppPop, w_eJs, w_jsN, w_jsC, q_repL, q_gEnT, q_addT, q_shr, q_and, q_revL, q_revT, q_cat, q_lnL, p_two, q_slL, q_slT, q_add, q_sub, q_mul, q_div, q_mod, q_pow, q_shl, q_lt, q_le, q_gt, q_ge, q_max2, q_min2, q_neg, q_abs, q_intI, q_intB, q_lenT, q_lenL, q_ixT, q_ixL, q_tupL, q_tupT, q_lstL, q_lstT, q_isN, q_gL, q_gT, q_gEnL, q_eq, q_ne, okMod_iff, okAll_iff, okPow_iff, okR_iff, at0, at1, at2, at3, at4, at5, is_int_non, is_int_bl, is_int_int, is_int_str, is_int_tup, is_int_lst, is_bool_non, is_bool_bl, is_bool_int, is_bool_str, is_bool_tup, is_bool_lst, is_str_non, is_str_bl, is_str_int, is_str_str, is_str_tup, is_str_lst, is_tuple_non, is_tuple_bl, is_tuple_int, is_tuple_str, is_tuple_tup, is_tuple_lst, is_list_non, is_list_bl, is_list_int, is_list_str, is_list_tup, is_list_lst, List.map_cons, List.map_nil, List.length_cons, List.length_nil, List.cons_append, List.nil_append, List.replicate_succ, List.replicate_zero, List.getElem?_cons_zero, List.getElem?_cons_succ, List.set_cons_zero, List.set_cons_succ, List.append_nil, bindP, wipeT, setAll, Nat.reduceSub, Nat.reduceAdd, true_and, and_true, if_true, if_false, Bool.not_true, Bool.not_false, eq_self, ite_true, ite_false, reduceIte, ne_eq, not_false_eq_true, not_true_eq_false, false_or, or_false, true_or, or_true, Bool.false_eq_true]
  refine number_spec hb1 fun x h2 hb2 x0 x1 => ?_
  simp only [v_Seq, v_If, w_ok, w_bind, w_of, w_fl, w_ite, w_iteN, ex_ite, ex_some, ex_map, ex_bind, w_C, w_V, w_Bin, w_Un, w_Nil, w_Cons, w_Tup, w_Lst, w_Box, w_Of, w_And, w_Or, w_Not, w_True, w_eAnd, w_eOr, w_eNot, w_If, w_Chain, w_oN, w_oS, w_Sl, w_Call, w_CallB, w_eJoin, w_Rev, ex_str, v_nx, v_rt, v_Skip, v_Seq, v_If, v_Ret, v_Expr, v_Set, v_Tp, v_Par, v_For, v_App, v_Mut, v_Ext, v_Put, v_PutB, ex_eqT, ex_eqL, ex_lst, ex_bl, ex_int, if_dec, w_iMap, w_iR1, w_iR2, w_iR3, w_iZ, w_iZE, w_Lc, w_LRg, v_AppPop, w_eJs, w_jsN, w_jsC, q_repL, q_gEnT, q_addT, q_shr, q_and, q_revL, q_revT, q_cat, q_lnL, p_two, q_slL, q_slT, q_add, q_sub, q_mul, q_div, q_mod, q_pow, q_shl, q_lt, q_le, q_gt, q_ge, q_max2, q_min2, q_neg, q_abs, q_intI, q_intB, q_lenT, q_lenL, q_ixT, q_ixL, q_tupL, q_tupT, q_lstL, q_lstT, q_isN, q_gL, q_gT, q_gEnL, q_eq, q_ne, okMod_iff, okAll_iff, okPow_iff, okR_iff, at0, at1, at2, at3, at4, at5, is_int_non, is_int_bl, is_int_int, is_int_str, is_int_tup, is_int_lst, is_bool_non, is_bool_bl, is_bool_int, is_bool_str, is_bool_tup, is_bool_lst, is_str_non, is_str_bl, is_str_int, is_str_str, is_str_tup, is_str_lst, is_tuple_non, is_tuple_bl, is_tuple_int, is_tuple_str, is_tuple_tup, is_tuple_lst, is_list_non, is_list_bl, is_list_int, is_list_str, is_list_tup, is_list_lst, List.map_cons, List.map_nil, List.length_cons, List.length_nil, List.cons_append, List.nil_append, List.replicate_succ, List.replicate_zero, List.getElem?_cons_zero, List.getElem?_cons_succ, List.set_cons_zero, List.set_cons_succ, List.append_nil, bindP, wipeT, setAll, Nat.reduceSub, Nat.reduceAdd, true_and, and_true, if_true, if_false, Bool.not_true, Bool.not_false, eq_self, ite_true, ite_false, reduceIte, ne_eq, not_false_eq_true, not_true_eq_false, false_or, or_false, true_or, or_true, Bool.false_eq_true]
  refine ⟨okMul_10 (by omega) (by omega) (by omega) (by omega), ?_⟩
  refine number_spec hb2 fun y h3 hb3 y0 y1 => ?_
  have p30 : (10 : Int) ^ Int.toNat 30 = 10 ^ 30 := rfl
  simp only [v_Seq, v_If, w_ok, w_bind, w_of, w_fl, w_ite, w_iteN, ex_ite, ex_some, ex_map, ex_bind, w_C, w_V, w_Bin, w_Un, w_Nil, w_Cons, w_Tup, w_Lst, w_Box, w_Of, w_And, w_Or, w_Not, w_True, w_eAnd, w_eOr, w_eNot, w_If, w_Chain, w_oN, w_oS, w_Sl, w_Call, w_CallB, w_eJoin, w_Rev, ex_str, v_nx, v_rt, v_Skip, v_Seq, v_If, v_Ret, v_Expr, v_Set, v_Tp, v_Par, v_For, v_App, v_Mut, v_Ext, v_Put, v_PutB, ex_eqT, ex_eqL, ex_lst, ex_bl, ex_int, if_dec, w_iMap, w_iR1, w_iR2, w_iR3, w_iZ, w_iZE, w_Lc, w_LRg, v_AppPop, w_eJs, w_jsN, w_jsC, q_repL, q_gEnT, q_addT, q_shr, q_and, q_revL, q_revT, q_cat, q_lnL, p_two, q_slL, q_slT, q_add, q_sub, q_mul, q_div, q_mod, q_pow, q_shl, q_lt, q_le, q_gt, q_ge, q_max2, q_min2, q_neg, q_abs, q_intI, q_intB, q_lenT, q_lenL, q_ixT, q_ixL, q_tupL, q_tupT, q_lstL, q_lstT, q_isN, q_gL, q_gT, q_gEnL, q_eq, q_ne, okMod_iff, okAll_iff, okPow_iff, okR_iff, at0, at1, at2, at3, at4, at5, is_int_non, is_int_bl, is_int_int, is_int_str, is_int_tup, is_int_lst, is_bool_non, is_bool_bl, is_bool_int, is_bool_str, is_bool_tup, is_bool_lst, is_str_non, is_str_bl, is_str_int, is_str_str, is_str_tup, is_str_lst, is_tuple_non, is_tuple_bl, is_tuple_int, is_tuple_str, is_tuple_tup, is_tuple_lst, is_list_non, is_list_bl, is_list_int, is_list_str, is_list_tup, is_list_lst, List.map_cons, List.map_nil, List.length_cons, List.length_nil, List.cons_append, List.nil_append, List.replicate_succ, List.replicate_zero, List.getElem?_cons_zero, List.getElem?_cons_succ, List.set_cons_zero, List.set_cons_succ, List.append_nil, bindP, wipeT, setAll, Nat.reduceSub, Nat.reduceAdd, true_and, and_true, if_true, if_false, Bool.not_true, Bool.not_false, eq_self, ite_true, ite_false, reduceIte, ne_eq, not_false_eq_true, not_true_eq_false, false_or, or_false, true_or, or_true, Bool.false_eq_true, p30]
  rw [fmod_p (by decide)]
  refine ⟨⟨by decide, by decide, by decide⟩, by decide, ?_⟩
  have kx : -(10 ^ 30) ≤ k * x ∧ k * x ≤ 10 ^ 30 := by
    rcases (by omega : k = -1 ∨ k = 0 ∨ k = 1) with rfl | rfl | rfl <;> omega
  have m0 := Int.emod_nonneg y (by decide : (10 ^ 30 - 1 : Int) ≠ 0)
  have m1 := Int.emod_lt_of_pos y (by decide : (0 : Int) < 10 ^ 30 - 1)
  rw [lowest_is (by omega) (by omega), w_ok]
  obtain ⟨u, l, e, f, _⟩ := fqB_low (p := k * x) (q := 1 + y % (10 ^ 30 - 1)) (m := 10 ^ 30) (by omega) kx.1 kx.2 (by omega)
  rw [e]
  exact p u l h3 hb3 f
/-! _law_entry -/
/-- an entry: an item that is no line, or a step -/
def EntOk (t : T) : Prop := (∃ i, t = itT i ∧ isL i = false ∧ MkOk i) ∨ ∃ (row : List Int) (k a b : Int), t = .tup [.str "step", .tup (row.map T.int), .int k, .tup [.int a, .int b]] ∧ 1 ≤ row.length ∧ row.length ≤ 3 ∧ (∀ x ∈ row, -1 ≤ x ∧ x ≤ 1) ∧ (1 ≤ k ∧ k ≤ 1000) ∧ (-(10 ^ 39) ≤ a ∧ a ≤ 10 ^ 39) ∧ -(10 ^ 39) ≤ b ∧ b ≤ 10 ^ 39
theorem entry_spec {n ax : Nat} {h : IH} (hb : Bag h n) (a2 : 2 ≤ ax) (a3 : ax ≤ 3) {P : T → IH → Prop} (p : ∀ t h', Bag h' n → EntOk t → P t h') : Ok (f__law_entry [.box n, .int (ax : Int)] h) P := by
  have hs : (100000 : Nat) ≤ sizeLine := by decide
  unfold f__law_entry
  rw [w_runF]
  refine ⟨rfl, ?_⟩
  simp only [w_ok, w_bind, w_of, w_fl, w_ite, w_iteN, ex_ite, ex_some, ex_map, ex_bind, w_C, w_V, w_Bin, w_Un, w_Nil, w_Cons, w_Tup, w_Lst, w_Box, w_Of, w_And, w_Or, w_Not, w_True, w_eAnd, w_eOr, w_eNot, w_If, w_Chain, w_oN, w_oS, w_Sl, w_Call, w_CallB, w_eJoin, w_Rev, ex_str, v_nx, v_rt, v_Skip, v_Seq, v_If, v_Ret, v_Expr, v_Set, v_Tp, v_Par, v_For, v_App, v_Mut, v_Ext, v_Put, v_PutB, ex_eqT, ex_eqL, ex_lst, ex_bl, ex_int, if_dec, w_iMap, w_iR1, w_iR2, w_iR3, w_iZ, w_iZE, w_Lc, w_LRg, v_AppPop, w_eJs, w_jsN, w_jsC, q_repL, q_gEnT, q_addT, q_shr, q_and, q_revL, q_revT, q_cat, q_lnL, p_two, q_slL, q_slT, q_add, q_sub, q_mul, q_div, q_mod, q_pow, q_shl, q_lt, q_le, q_gt, q_ge, q_max2, q_min2, q_neg, q_abs, q_intI, q_intB, q_lenT, q_lenL, q_ixT, q_ixL, q_tupL, q_tupT, q_lstL, q_lstT, q_isN, q_gL, q_gT, q_gEnL, q_eq, q_ne, okMod_iff, okAll_iff, okPow_iff, okR_iff, at0, at1, at2, at3, at4, at5, is_int_non, is_int_bl, is_int_int, is_int_str, is_int_tup, is_int_lst, is_bool_non, is_bool_bl, is_bool_int, is_bool_str, is_bool_tup, is_bool_lst, is_str_non, is_str_bl, is_str_int, is_str_str, is_str_tup, is_str_lst, is_tuple_non, is_tuple_bl, is_tuple_int, is_tuple_str, is_tuple_tup, is_tuple_lst, is_list_non, is_list_bl, is_list_int, is_list_str, is_list_tup, is_list_lst, List.map_cons, List.map_nil, List.length_cons, List.length_nil, List.cons_append, List.nil_append, List.replicate_succ, List.replicate_zero, List.getElem?_cons_zero, List.getElem?_cons_succ, List.set_cons_zero, List.set_cons_succ, List.append_nil, bindP, wipeT, setAll, Nat.reduceSub, Nat.reduceAdd, true_and, and_true, if_true, if_false, Bool.not_true, Bool.not_false, eq_self, ite_true, ite_false, reduceIte, ne_eq, not_false_eq_true, not_true_eq_false, false_or, or_false, true_or, or_true, Bool.false_eq_true]
  refine take_spec hb (by decide) (by decide) fun how h1 hb1 o0 o1 => ?_
  try simp only [w_ok, w_bind, w_of, w_fl, w_ite, w_iteN, ex_ite, ex_some, ex_map, ex_bind, w_C, w_V, w_Bin, w_Un, w_Nil, w_Cons, w_Tup, w_Lst, w_Box, w_Of, w_And, w_Or, w_Not, w_True, w_eAnd, w_eOr, w_eNot, w_If, w_Chain, w_oN, w_oS, w_Sl, w_Call, w_CallB, w_eJoin, w_Rev, ex_str, v_nx, v_rt, v_Skip, v_Seq, v_If, v_Ret, v_Expr, v_Set, v_Tp, v_Par, v_For, v_App, v_Mut, v_Ext, v_Put, v_PutB, ex_eqT, ex_eqL, ex_lst, ex_bl, ex_int, if_dec, w_iMap, w_iR1, w_iR2, w_iR3, w_iZ, w_iZE, w_Lc, w_LRg, v_AppPop, w_eJs, w_jsN, w_jsC, q_repL, q_gEnT, q_addT, q_shr, q_and, q_revL, q_revT, q_cat, q_lnL, p_two, q_slL, q_slT, q_add, q_sub, q_mul, q_div, q_mod, q_pow, q_shl, q_lt, q_le, q_gt, q_ge, q_max2, q_min2, q_neg, q_abs, q_intI, q_intB, q_lenT, q_lenL, q_ixT, q_ixL, q_tupL, q_tupT, q_lstL, q_lstT, q_isN, q_gL, q_gT, q_gEnL, q_eq, q_ne, okMod_iff, okAll_iff, okPow_iff, okR_iff, at0, at1, at2, at3, at4, at5, is_int_non, is_int_bl, is_int_int, is_int_str, is_int_tup, is_int_lst, is_bool_non, is_bool_bl, is_bool_int, is_bool_str, is_bool_tup, is_bool_lst, is_str_non, is_str_bl, is_str_int, is_str_str, is_str_tup, is_str_lst, is_tuple_non, is_tuple_bl, is_tuple_int, is_tuple_str, is_tuple_tup, is_tuple_lst, is_list_non, is_list_bl, is_list_int, is_list_str, is_list_tup, is_list_lst, List.map_cons, List.map_nil, List.length_cons, List.length_nil, List.cons_append, List.nil_append, List.replicate_succ, List.replicate_zero, List.getElem?_cons_zero, List.getElem?_cons_succ, List.set_cons_zero, List.set_cons_succ, List.append_nil, bindP, wipeT, setAll, Nat.reduceSub, Nat.reduceAdd, true_and, and_true, if_true, if_false, Bool.not_true, Bool.not_false, eq_self, ite_true, ite_false, reduceIte, ne_eq, not_false_eq_true, not_true_eq_false, false_or, or_false, true_or, or_true, Bool.false_eq_true]
  unfold f__law_entry_r4
  simp only [w_ok, w_bind, w_of, w_fl, w_ite, w_iteN, ex_ite, ex_some, ex_map, ex_bind, w_C, w_V, w_Bin, w_Un, w_Nil, w_Cons, w_Tup, w_Lst, w_Box, w_Of, w_And, w_Or, w_Not, w_True, w_eAnd, w_eOr, w_eNot, w_If, w_Chain, w_oN, w_oS, w_Sl, w_Call, w_CallB, w_eJoin, w_Rev, ex_str, v_nx, v_rt, v_Skip, v_Seq, v_If, v_Ret, v_Expr, v_Set, v_Tp, v_Par, v_For, v_App, v_Mut, v_Ext, v_Put, v_PutB, ex_eqT, ex_eqL, ex_lst, ex_bl, ex_int, if_dec, w_iMap, w_iR1, w_iR2, w_iR3, w_iZ, w_iZE, w_Lc, w_LRg, v_AppPop, w_eJs, w_jsN, w_jsC, q_repL, q_gEnT, q_addT, q_shr, q_and, q_revL, q_revT, q_cat, q_lnL, p_two, q_slL, q_slT, q_add, q_sub, q_mul, q_div, q_mod, q_pow, q_shl, q_lt, q_le, q_gt, q_ge, q_max2, q_min2, q_neg, q_abs, q_intI, q_intB, q_lenT, q_lenL, q_ixT, q_ixL, q_tupL, q_tupT, q_lstL, q_lstT, q_isN, q_gL, q_gT, q_gEnL, q_eq, q_ne, okMod_iff, okAll_iff, okPow_iff, okR_iff, at0, at1, at2, at3, at4, at5, is_int_non, is_int_bl, is_int_int, is_int_str, is_int_tup, is_int_lst, is_bool_non, is_bool_bl, is_bool_int, is_bool_str, is_bool_tup, is_bool_lst, is_str_non, is_str_bl, is_str_int, is_str_str, is_str_tup, is_str_lst, is_tuple_non, is_tuple_bl, is_tuple_int, is_tuple_str, is_tuple_tup, is_tuple_lst, is_list_non, is_list_bl, is_list_int, is_list_str, is_list_tup, is_list_lst, List.map_cons, List.map_nil, List.length_cons, List.length_nil, List.cons_append, List.nil_append, List.replicate_succ, List.replicate_zero, List.getElem?_cons_zero, List.getElem?_cons_succ, List.set_cons_zero, List.set_cons_succ, List.append_nil, bindP, wipeT, setAll, Nat.reduceSub, Nat.reduceAdd, true_and, and_true, if_true, if_false, Bool.not_true, Bool.not_false, eq_self, ite_true, ite_false, reduceIte, ne_eq, not_false_eq_true, not_true_eq_false, false_or, or_false, true_or, or_true, Bool.false_eq_true]
  refine item_spec2 hb1 a2 a3 fun i h2 hb2 oi si mi => ?_
  try simp only [w_ok, w_bind, w_of, w_fl, w_ite, w_iteN, ex_ite, ex_some, ex_map, ex_bind, w_C, w_V, w_Bin, w_Un, w_Nil, w_Cons, w_Tup, w_Lst, w_Box, w_Of, w_And, w_Or, w_Not, w_True, w_eAnd, w_eOr, w_eNot, w_If, w_Chain, w_oN, w_oS, w_Sl, w_Call, w_CallB, w_eJoin, w_Rev, ex_str, v_nx, v_rt, v_Skip, v_Seq, v_If, v_Ret, v_Expr, v_Set, v_Tp, v_Par, v_For, v_App, v_Mut, v_Ext, v_Put, v_PutB, ex_eqT, ex_eqL, ex_lst, ex_bl, ex_int, if_dec, w_iMap, w_iR1, w_iR2, w_iR3, w_iZ, w_iZE, w_Lc, w_LRg, v_AppPop, w_eJs, w_jsN, w_jsC, q_repL, q_gEnT, q_addT, q_shr, q_and, q_revL, q_revT, q_cat, q_lnL, p_two, q_slL, q_slT, q_add, q_sub, q_mul, q_div, q_mod, q_pow, q_shl, q_lt, q_le, q_gt, q_ge, q_max2, q_min2, q_neg, q_abs, q_intI, q_intB, q_lenT, q_lenL, q_ixT, q_ixL, q_tupL, q_tupT, q_lstL, q_lstT, q_isN, q_gL, q_gT, q_gEnL, q_eq, q_ne, okMod_iff, okAll_iff, okPow_iff, okR_iff, at0, at1, at2, at3, at4, at5, is_int_non, is_int_bl, is_int_int, is_int_str, is_int_tup, is_int_lst, is_bool_non, is_bool_bl, is_bool_int, is_bool_str, is_bool_tup, is_bool_lst, is_str_non, is_str_bl, is_str_int, is_str_str, is_str_tup, is_str_lst, is_tuple_non, is_tuple_bl, is_tuple_int, is_tuple_str, is_tuple_tup, is_tuple_lst, is_list_non, is_list_bl, is_list_int, is_list_str, is_list_tup, is_list_lst, List.map_cons, List.map_nil, List.length_cons, List.length_nil, List.cons_append, List.nil_append, List.replicate_succ, List.replicate_zero, List.getElem?_cons_zero, List.getElem?_cons_succ, List.set_cons_zero, List.set_cons_succ, List.append_nil, bindP, wipeT, setAll, Nat.reduceSub, Nat.reduceAdd, true_and, and_true, if_true, if_false, Bool.not_true, Bool.not_false, eq_self, ite_true, ite_false, reduceIte, ne_eq, not_false_eq_true, not_true_eq_false, false_or, or_false, true_or, or_true, Bool.false_eq_true]
  obtain ⟨w, ts, ei, qe, qn⟩ := eq_kindH (i := i)
  have rest : OkS (f__law_entry_r2 [some (.box n), some (.int (ax : Int)), some (.int how), some (itT i), none, none, none] h2) (fun _ h' => P .non h') P := by
    unfold f__law_entry_r2
    simp only [w_ok, w_bind, w_of, w_fl, w_ite, w_iteN, ex_ite, ex_some, ex_map, ex_bind, w_C, w_V, w_Bin, w_Un, w_Nil, w_Cons, w_Tup, w_Lst, w_Box, w_Of, w_And, w_Or, w_Not, w_True, w_eAnd, w_eOr, w_eNot, w_If, w_Chain, w_oN, w_oS, w_Sl, w_Call, w_CallB, w_eJoin, w_Rev, ex_str, v_nx, v_rt, v_Skip, v_Seq, v_If, v_Ret, v_Expr, v_Set, v_Tp, v_Par, v_For, v_App, v_Mut, v_Ext, v_Put, v_PutB, ex_eqT, ex_eqL, ex_lst, ex_bl, ex_int, if_dec, w_iMap, w_iR1, w_iR2, w_iR3, w_iZ, w_iZE, w_Lc, w_LRg, v_AppPop, w_eJs, w_jsN, w_jsC, q_repL, q_gEnT, q_addT, q_shr, q_and, q_revL, q_revT, q_cat, q_lnL, p_two, q_slL, q_slT, q_add, q_sub, q_mul, q_div, q_mod, q_pow, q_shl, q_lt, q_le, q_gt, q_ge, q_max2, q_min2, q_neg, q_abs, q_intI, q_intB, q_lenT, q_lenL, q_ixT, q_ixL, q_tupL, q_tupT, q_lstL, q_lstT, q_isN, q_gL, q_gT, q_gEnL, q_eq, q_ne, okMod_iff, okAll_iff, okPow_iff, okR_iff, at0, at1, at2, at3, at4, at5, is_int_non, is_int_bl, is_int_int, is_int_str, is_int_tup, is_int_lst, is_bool_non, is_bool_bl, is_bool_int, is_bool_str, is_bool_tup, is_bool_lst, is_str_non, is_str_bl, is_str_int, is_str_str, is_str_tup, is_str_lst, is_tuple_non, is_tuple_bl, is_tuple_int, is_tuple_str, is_tuple_tup, is_tuple_lst, is_list_non, is_list_bl, is_list_int, is_list_str, is_list_tup, is_list_lst, List.map_cons, List.map_nil, List.length_cons, List.length_nil, List.cons_append, List.nil_append, List.replicate_succ, List.replicate_zero, List.getElem?_cons_zero, List.getElem?_cons_succ, List.set_cons_zero, List.set_cons_succ, List.append_nil, bindP, wipeT, setAll, Nat.reduceSub, Nat.reduceAdd, true_and, and_true, if_true, if_false, Bool.not_true, Bool.not_false, eq_self, ite_true, ite_false, reduceIte, ne_eq, not_false_eq_true, not_true_eq_false, false_or, or_false, true_or, or_true, Bool.false_eq_true]
    refine ⟨⟨by omega, by omega⟩, ?_⟩
    refine (lc_all (fun h => Bag h n) (fun _ y => ∃ d, y = T.int d ∧ -1 ≤ d ∧ d ≤ 1) hb2 ?_).imp ?_
    · intro t mt h3 hb3
      refine ⟨_, rfl, ?_⟩
      unfold f__law_entry_e1
      simp only [w_ok, w_bind, w_of, w_fl, w_ite, w_iteN, ex_ite, ex_some, ex_map, ex_bind, w_C, w_V, w_Bin, w_Un, w_Nil, w_Cons, w_Tup, w_Lst, w_Box, w_Of, w_And, w_Or, w_Not, w_True, w_eAnd, w_eOr, w_eNot, w_If, w_Chain, w_oN, w_oS, w_Sl, w_Call, w_CallB, w_eJoin, w_Rev, ex_str, v_nx, v_rt, v_Skip, v_Seq, v_If, v_Ret, v_Expr, v_Set, v_Tp, v_Par, v_For, v_App, v_Mut, v_Ext, v_Put, v_PutB, ex_eqT, ex_eqL, ex_lst, ex_bl, ex_int, if_dec, w_iMap, w_iR1, w_iR2, w_iR3, w_iZ, w_iZE, w_Lc, w_LRg, v_AppPop, w_eJs, w_jsN, w_jsC, q_repL, q_gEnT, q_addT, q_shr, q_and, q_revL, q_revT, q_cat, q_lnL, p_two, q_slL, q_slT, q_add, q_sub, q_mul, q_div, q_mod, q_pow, q_shl, q_lt, q_le, q_gt, q_ge, q_max2, q_min2, q_neg, q_abs, q_intI, q_intB, q_lenT, q_lenL, q_ixT, q_ixL, q_tupL, q_tupT, q_lstL, q_lstT, q_isN, q_gL, q_gT, q_gEnL, q_eq, q_ne, okMod_iff, okAll_iff, okPow_iff, okR_iff, at0, at1, at2, at3, at4, at5, is_int_non, is_int_bl, is_int_int, is_int_str, is_int_tup, is_int_lst, is_bool_non, is_bool_bl, is_bool_int, is_bool_str, is_bool_tup, is_bool_lst, is_str_non, is_str_bl, is_str_int, is_str_str, is_str_tup, is_str_lst, is_tuple_non, is_tuple_bl, is_tuple_int, is_tuple_str, is_tuple_tup, is_tuple_lst, is_list_non, is_list_bl, is_list_int, is_list_str, is_list_tup, is_list_lst, List.map_cons, List.map_nil, List.length_cons, List.length_nil, List.cons_append, List.nil_append, List.replicate_succ, List.replicate_zero, List.getElem?_cons_zero, List.getElem?_cons_succ, List.set_cons_zero, List.set_cons_succ, List.append_nil, bindP, wipeT, setAll, Nat.reduceSub, Nat.reduceAdd, true_and, and_true, if_true, if_false, Bool.not_true, Bool.not_false, eq_self, ite_true, ite_false, reduceIte, ne_eq, not_false_eq_true, not_true_eq_false, false_or, or_false, true_or, or_true, Bool.false_eq_true]
      refine take_spec hb3 (by decide) (by decide) fun d h' hb' d0 d1 => ?_
      simp only [w_ok, w_bind, w_of, w_fl, w_ite, w_iteN, ex_ite, ex_some, ex_map, ex_bind, w_C, w_V, w_Bin, w_Un, w_Nil, w_Cons, w_Tup, w_Lst, w_Box, w_Of, w_And, w_Or, w_Not, w_True, w_eAnd, w_eOr, w_eNot, w_If, w_Chain, w_oN, w_oS, w_Sl, w_Call, w_CallB, w_eJoin, w_Rev, ex_str, v_nx, v_rt, v_Skip, v_Seq, v_If, v_Ret, v_Expr, v_Set, v_Tp, v_Par, v_For, v_App, v_Mut, v_Ext, v_Put, v_PutB, ex_eqT, ex_eqL, ex_lst, ex_bl, ex_int, if_dec, w_iMap, w_iR1, w_iR2, w_iR3, w_iZ, w_iZE, w_Lc, w_LRg, v_AppPop, w_eJs, w_jsN, w_jsC, q_repL, q_gEnT, q_addT, q_shr, q_and, q_revL, q_revT, q_cat, q_lnL, p_two, q_slL, q_slT, q_add, q_sub, q_mul, q_div, q_mod, q_pow, q_shl, q_lt, q_le, q_gt, q_ge, q_max2, q_min2, q_neg, q_abs, q_intI, q_intB, q_lenT, q_lenL, q_ixT, q_ixL, q_tupL, q_tupT, q_lstL, q_lstT, q_isN, q_gL, q_gT, q_gEnL, q_eq, q_ne, okMod_iff, okAll_iff, okPow_iff, okR_iff, at0, at1, at2, at3, at4, at5, is_int_non, is_int_bl, is_int_int, is_int_str, is_int_tup, is_int_lst, is_bool_non, is_bool_bl, is_bool_int, is_bool_str, is_bool_tup, is_bool_lst, is_str_non, is_str_bl, is_str_int, is_str_str, is_str_tup, is_str_lst, is_tuple_non, is_tuple_bl, is_tuple_int, is_tuple_str, is_tuple_tup, is_tuple_lst, is_list_non, is_list_bl, is_list_int, is_list_str, is_list_tup, is_list_lst, List.map_cons, List.map_nil, List.length_cons, List.length_nil, List.cons_append, List.nil_append, List.replicate_succ, List.replicate_zero, List.getElem?_cons_zero, List.getElem?_cons_succ, List.set_cons_zero, List.set_cons_succ, List.append_nil, bindP, wipeT, setAll, Nat.reduceSub, Nat.reduceAdd, true_and, and_true, if_true, if_false, Bool.not_true, Bool.not_false, eq_self, ite_true, ite_false, reduceIte, ne_eq, not_false_eq_true, not_true_eq_false, false_or, or_false, true_or, or_true, Bool.false_eq_true]
      exact ⟨⟨by omega, by omega⟩, hb'⟩
    rintro ys h3 ⟨al, hb3⟩
    obtain ⟨row, rfl, q1, q2⟩ := all2_ints al
    have ql : (rngL 0 (ax : Int).toNat 1).length = ax := by simp [rngL]
    rw [ql] at q2
    refine ⟨by rw [ql]; omega, ?_⟩
    try simp only [w_ok, w_bind, w_of, w_fl, w_ite, w_iteN, ex_ite, ex_some, ex_map, ex_bind, w_C, w_V, w_Bin, w_Un, w_Nil, w_Cons, w_Tup, w_Lst, w_Box, w_Of, w_And, w_Or, w_Not, w_True, w_eAnd, w_eOr, w_eNot, w_If, w_Chain, w_oN, w_oS, w_Sl, w_Call, w_CallB, w_eJoin, w_Rev, ex_str, v_nx, v_rt, v_Skip, v_Seq, v_If, v_Ret, v_Expr, v_Set, v_Tp, v_Par, v_For, v_App, v_Mut, v_Ext, v_Put, v_PutB, ex_eqT, ex_eqL, ex_lst, ex_bl, ex_int, if_dec, w_iMap, w_iR1, w_iR2, w_iR3, w_iZ, w_iZE, w_Lc, w_LRg, v_AppPop, w_eJs, w_jsN, w_jsC, q_repL, q_gEnT, q_addT, q_shr, q_and, q_revL, q_revT, q_cat, q_lnL, p_two, q_slL, q_slT, q_add, q_sub, q_mul, q_div, q_mod, q_pow, q_shl, q_lt, q_le, q_gt, q_ge, q_max2, q_min2, q_neg, q_abs, q_intI, q_intB, q_lenT, q_lenL, q_ixT, q_ixL, q_tupL, q_tupT, q_lstL, q_lstT, q_isN, q_gL, q_gT, q_gEnL, q_eq, q_ne, okMod_iff, okAll_iff, okPow_iff, okR_iff, at0, at1, at2, at3, at4, at5, is_int_non, is_int_bl, is_int_int, is_int_str, is_int_tup, is_int_lst, is_bool_non, is_bool_bl, is_bool_int, is_bool_str, is_bool_tup, is_bool_lst, is_str_non, is_str_bl, is_str_int, is_str_str, is_str_tup, is_str_lst, is_tuple_non, is_tuple_bl, is_tuple_int, is_tuple_str, is_tuple_tup, is_tuple_lst, is_list_non, is_list_bl, is_list_int, is_list_str, is_list_tup, is_list_lst, List.map_cons, List.map_nil, List.length_cons, List.length_nil, List.cons_append, List.nil_append, List.replicate_succ, List.replicate_zero, List.getElem?_cons_zero, List.getElem?_cons_succ, List.set_cons_zero, List.set_cons_succ, List.append_nil, bindP, wipeT, setAll, Nat.reduceSub, Nat.reduceAdd, true_and, and_true, if_true, if_false, Bool.not_true, Bool.not_false, eq_self, ite_true, ite_false, reduceIte, ne_eq, not_false_eq_true, not_true_eq_false, false_or, or_false, true_or, or_true, Bool.false_eq_true]
    unfold f__law_entry_r1
    simp only [w_ok, w_bind, w_of, w_fl, w_ite, w_iteN, ex_ite, ex_some, ex_map, ex_bind, w_C, w_V, w_Bin, w_Un, w_Nil, w_Cons, w_Tup, w_Lst, w_Box, w_Of, w_And, w_Or, w_Not, w_True, w_eAnd, w_eOr, w_eNot, w_If, w_Chain, w_oN, w_oS, w_Sl, w_Call, w_CallB, w_eJoin, w_Rev, ex_str, v_nx, v_rt, v_Skip, v_Seq, v_If, v_Ret, v_Expr, v_Set, v_Tp, v_Par, v_For, v_App, v_Mut, v_Ext, v_Put, v_PutB, ex_eqT, ex_eqL, ex_lst, ex_bl, ex_int, if_dec, w_iMap, w_iR1, w_iR2, w_iR3, w_iZ, w_iZE, w_Lc, w_LRg, v_AppPop, w_eJs, w_jsN, w_jsC, q_repL, q_gEnT, q_addT, q_shr, q_and, q_revL, q_revT, q_cat, q_lnL, p_two, q_slL, q_slT, q_add, q_sub, q_mul, q_div, q_mod, q_pow, q_shl, q_lt, q_le, q_gt, q_ge, q_max2, q_min2, q_neg, q_abs, q_intI, q_intB, q_lenT, q_lenL, q_ixT, q_ixL, q_tupL, q_tupT, q_lstL, q_lstT, q_isN, q_gL, q_gT, q_gEnL, q_eq, q_ne, okMod_iff, okAll_iff, okPow_iff, okR_iff, at0, at1, at2, at3, at4, at5, is_int_non, is_int_bl, is_int_int, is_int_str, is_int_tup, is_int_lst, is_bool_non, is_bool_bl, is_bool_int, is_bool_str, is_bool_tup, is_bool_lst, is_str_non, is_str_bl, is_str_int, is_str_str, is_str_tup, is_str_lst, is_tuple_non, is_tuple_bl, is_tuple_int, is_tuple_str, is_tuple_tup, is_tuple_lst, is_list_non, is_list_bl, is_list_int, is_list_str, is_list_tup, is_list_lst, List.map_cons, List.map_nil, List.length_cons, List.length_nil, List.cons_append, List.nil_append, List.replicate_succ, List.replicate_zero, List.getElem?_cons_zero, List.getElem?_cons_succ, List.set_cons_zero, List.set_cons_succ, List.append_nil, bindP, wipeT, setAll, Nat.reduceSub, Nat.reduceAdd, true_and, and_true, if_true, if_false, Bool.not_true, Bool.not_false, eq_self, ite_true, ite_false, reduceIte, ne_eq, not_false_eq_true, not_true_eq_false, false_or, or_false, true_or, or_true, Bool.false_eq_true]
    refine fraction_spec hb3 fun u l h4 hb4 fq => ?_
    try simp only [w_ok, w_bind, w_of, w_fl, w_ite, w_iteN, ex_ite, ex_some, ex_map, ex_bind, w_C, w_V, w_Bin, w_Un, w_Nil, w_Cons, w_Tup, w_Lst, w_Box, w_Of, w_And, w_Or, w_Not, w_True, w_eAnd, w_eOr, w_eNot, w_If, w_Chain, w_oN, w_oS, w_Sl, w_Call, w_CallB, w_eJoin, w_Rev, ex_str, v_nx, v_rt, v_Skip, v_Seq, v_If, v_Ret, v_Expr, v_Set, v_Tp, v_Par, v_For, v_App, v_Mut, v_Ext, v_Put, v_PutB, ex_eqT, ex_eqL, ex_lst, ex_bl, ex_int, if_dec, w_iMap, w_iR1, w_iR2, w_iR3, w_iZ, w_iZE, w_Lc, w_LRg, v_AppPop, w_eJs, w_jsN, w_jsC, q_repL, q_gEnT, q_addT, q_shr, q_and, q_revL, q_revT, q_cat, q_lnL, p_two, q_slL, q_slT, q_add, q_sub, q_mul, q_div, q_mod, q_pow, q_shl, q_lt, q_le, q_gt, q_ge, q_max2, q_min2, q_neg, q_abs, q_intI, q_intB, q_lenT, q_lenL, q_ixT, q_ixL, q_tupL, q_tupT, q_lstL, q_lstT, q_isN, q_gL, q_gT, q_gEnL, q_eq, q_ne, okMod_iff, okAll_iff, okPow_iff, okR_iff, at0, at1, at2, at3, at4, at5, is_int_non, is_int_bl, is_int_int, is_int_str, is_int_tup, is_int_lst, is_bool_non, is_bool_bl, is_bool_int, is_bool_str, is_bool_tup, is_bool_lst, is_str_non, is_str_bl, is_str_int, is_str_str, is_str_tup, is_str_lst, is_tuple_non, is_tuple_bl, is_tuple_int, is_tuple_str, is_tuple_tup, is_tuple_lst, is_list_non, is_list_bl, is_list_int, is_list_str, is_list_tup, is_list_lst, List.map_cons, List.map_nil, List.length_cons, List.length_nil, List.cons_append, List.nil_append, List.replicate_succ, List.replicate_zero, List.getElem?_cons_zero, List.getElem?_cons_succ, List.set_cons_zero, List.set_cons_succ, List.append_nil, bindP, wipeT, setAll, Nat.reduceSub, Nat.reduceAdd, true_and, and_true, if_true, if_false, Bool.not_true, Bool.not_false, eq_self, ite_true, ite_false, reduceIte, ne_eq, not_false_eq_true, not_true_eq_false, false_or, or_false, true_or, or_true, Bool.false_eq_true]
    refine take_spec hb4 (by decide) (by decide) fun d h5 hb5 d0 d1 => ?_
    simp only [w_ok, w_bind, w_of, w_fl, w_ite, w_iteN, ex_ite, ex_some, ex_map, ex_bind, w_C, w_V, w_Bin, w_Un, w_Nil, w_Cons, w_Tup, w_Lst, w_Box, w_Of, w_And, w_Or, w_Not, w_True, w_eAnd, w_eOr, w_eNot, w_If, w_Chain, w_oN, w_oS, w_Sl, w_Call, w_CallB, w_eJoin, w_Rev, ex_str, v_nx, v_rt, v_Skip, v_Seq, v_If, v_Ret, v_Expr, v_Set, v_Tp, v_Par, v_For, v_App, v_Mut, v_Ext, v_Put, v_PutB, ex_eqT, ex_eqL, ex_lst, ex_bl, ex_int, if_dec, w_iMap, w_iR1, w_iR2, w_iR3, w_iZ, w_iZE, w_Lc, w_LRg, v_AppPop, w_eJs, w_jsN, w_jsC, q_repL, q_gEnT, q_addT, q_shr, q_and, q_revL, q_revT, q_cat, q_lnL, p_two, q_slL, q_slT, q_add, q_sub, q_mul, q_div, q_mod, q_pow, q_shl, q_lt, q_le, q_gt, q_ge, q_max2, q_min2, q_neg, q_abs, q_intI, q_intB, q_lenT, q_lenL, q_ixT, q_ixL, q_tupL, q_tupT, q_lstL, q_lstT, q_isN, q_gL, q_gT, q_gEnL, q_eq, q_ne, okMod_iff, okAll_iff, okPow_iff, okR_iff, at0, at1, at2, at3, at4, at5, is_int_non, is_int_bl, is_int_int, is_int_str, is_int_tup, is_int_lst, is_bool_non, is_bool_bl, is_bool_int, is_bool_str, is_bool_tup, is_bool_lst, is_str_non, is_str_bl, is_str_int, is_str_str, is_str_tup, is_str_lst, is_tuple_non, is_tuple_bl, is_tuple_int, is_tuple_str, is_tuple_tup, is_tuple_lst, is_list_non, is_list_bl, is_list_int, is_list_str, is_list_tup, is_list_lst, List.map_cons, List.map_nil, List.length_cons, List.length_nil, List.cons_append, List.nil_append, List.replicate_succ, List.replicate_zero, List.getElem?_cons_zero, List.getElem?_cons_succ, List.set_cons_zero, List.set_cons_succ, List.append_nil, bindP, wipeT, setAll, Nat.reduceSub, Nat.reduceAdd, true_and, and_true, if_true, if_false, Bool.not_true, Bool.not_false, eq_self, ite_true, ite_false, reduceIte, ne_eq, not_false_eq_true, not_true_eq_false, false_or, or_false, true_or, or_true, Bool.false_eq_true]
    have l1 := fq.lo
    have l2 := fq.hi
    have l3 := fq.fq.pos
    have l4 := fq.qm
    by_cases z : u = 0
    · simp only [z, decide_true, w_ok, w_bind, w_of, w_fl, w_ite, w_iteN, ex_ite, ex_some, ex_map, ex_bind, w_C, w_V, w_Bin, w_Un, w_Nil, w_Cons, w_Tup, w_Lst, w_Box, w_Of, w_And, w_Or, w_Not, w_True, w_eAnd, w_eOr, w_eNot, w_If, w_Chain, w_oN, w_oS, w_Sl, w_Call, w_CallB, w_eJoin, w_Rev, ex_str, v_nx, v_rt, v_Skip, v_Seq, v_If, v_Ret, v_Expr, v_Set, v_Tp, v_Par, v_For, v_App, v_Mut, v_Ext, v_Put, v_PutB, ex_eqT, ex_eqL, ex_lst, ex_bl, ex_int, if_dec, w_iMap, w_iR1, w_iR2, w_iR3, w_iZ, w_iZE, w_Lc, w_LRg, v_AppPop, w_eJs, w_jsN, w_jsC, q_repL, q_gEnT, q_addT, q_shr, q_and, q_revL, q_revT, q_cat, q_lnL, p_two, q_slL, q_slT, q_add, q_sub, q_mul, q_div, q_mod, q_pow, q_shl, q_lt, q_le, q_gt, q_ge, q_max2, q_min2, q_neg, q_abs, q_intI, q_intB, q_lenT, q_lenL, q_ixT, q_ixL, q_tupL, q_tupT, q_lstL, q_lstT, q_isN, q_gL, q_gT, q_gEnL, q_eq, q_ne, okMod_iff, okAll_iff, okPow_iff, okR_iff, at0, at1, at2, at3, at4, at5, is_int_non, is_int_bl, is_int_int, is_int_str, is_int_tup, is_int_lst, is_bool_non, is_bool_bl, is_bool_int, is_bool_str, is_bool_tup, is_bool_lst, is_str_non, is_str_bl, is_str_int, is_str_str, is_str_tup, is_str_lst, is_tuple_non, is_tuple_bl, is_tuple_int, is_tuple_str, is_tuple_tup, is_tuple_lst, is_list_non, is_list_bl, is_list_int, is_list_str, is_list_tup, is_list_lst, List.map_cons, List.map_nil, List.length_cons, List.length_nil, List.cons_append, List.nil_append, List.replicate_succ, List.replicate_zero, List.getElem?_cons_zero, List.getElem?_cons_succ, List.set_cons_zero, List.set_cons_succ, List.append_nil, bindP, wipeT, setAll, Nat.reduceSub, Nat.reduceAdd, true_and, and_true, if_true, if_false, Bool.not_true, Bool.not_false, eq_self, ite_true, ite_false, reduceIte, ne_eq, not_false_eq_true, not_true_eq_false, false_or, or_false, true_or, or_true, Bool.false_eq_true]
      refine ⟨two_line, le_line (by decide), p _ _ hb5 (.inr ⟨row, 1 + d, _, _, rfl, by omega, by omega, q1, by omega, ?_, by omega, by omega⟩)⟩
      split <;> omega
    · simp only [z, decide_false, w_ok, w_bind, w_of, w_fl, w_ite, w_iteN, ex_ite, ex_some, ex_map, ex_bind, w_C, w_V, w_Bin, w_Un, w_Nil, w_Cons, w_Tup, w_Lst, w_Box, w_Of, w_And, w_Or, w_Not, w_True, w_eAnd, w_eOr, w_eNot, w_If, w_Chain, w_oN, w_oS, w_Sl, w_Call, w_CallB, w_eJoin, w_Rev, ex_str, v_nx, v_rt, v_Skip, v_Seq, v_If, v_Ret, v_Expr, v_Set, v_Tp, v_Par, v_For, v_App, v_Mut, v_Ext, v_Put, v_PutB, ex_eqT, ex_eqL, ex_lst, ex_bl, ex_int, if_dec, w_iMap, w_iR1, w_iR2, w_iR3, w_iZ, w_iZE, w_Lc, w_LRg, v_AppPop, w_eJs, w_jsN, w_jsC, q_repL, q_gEnT, q_addT, q_shr, q_and, q_revL, q_revT, q_cat, q_lnL, p_two, q_slL, q_slT, q_add, q_sub, q_mul, q_div, q_mod, q_pow, q_shl, q_lt, q_le, q_gt, q_ge, q_max2, q_min2, q_neg, q_abs, q_intI, q_intB, q_lenT, q_lenL, q_ixT, q_ixL, q_tupL, q_tupT, q_lstL, q_lstT, q_isN, q_gL, q_gT, q_gEnL, q_eq, q_ne, okMod_iff, okAll_iff, okPow_iff, okR_iff, at0, at1, at2, at3, at4, at5, is_int_non, is_int_bl, is_int_int, is_int_str, is_int_tup, is_int_lst, is_bool_non, is_bool_bl, is_bool_int, is_bool_str, is_bool_tup, is_bool_lst, is_str_non, is_str_bl, is_str_int, is_str_str, is_str_tup, is_str_lst, is_tuple_non, is_tuple_bl, is_tuple_int, is_tuple_str, is_tuple_tup, is_tuple_lst, is_list_non, is_list_bl, is_list_int, is_list_str, is_list_tup, is_list_lst, List.map_cons, List.map_nil, List.length_cons, List.length_nil, List.cons_append, List.nil_append, List.replicate_succ, List.replicate_zero, List.getElem?_cons_zero, List.getElem?_cons_succ, List.set_cons_zero, List.set_cons_succ, List.append_nil, bindP, wipeT, setAll, Nat.reduceSub, Nat.reduceAdd, true_and, and_true, if_true, if_false, Bool.not_true, Bool.not_false, eq_self, ite_true, ite_false, reduceIte, ne_eq, not_false_eq_true, not_true_eq_false, false_or, or_false, true_or, or_true, Bool.false_eq_true]
      refine ⟨two_line, le_line (by decide), p _ _ hb5 (.inr ⟨row, 1 + d, _, _, rfl, by omega, by omega, q1, by omega, ?_, by omega, by omega⟩)⟩
      split <;> omega
  unfold f__law_entry_r3
  rw [v_Seq, v_If]
  generalize hR : f__law_entry_r2 = R at rest ⊢
  rw [ei] at rest ⊢
  simp only [qn, w_ok, w_bind, w_of, w_fl, w_ite, w_iteN, ex_ite, ex_some, ex_map, ex_bind, w_C, w_V, w_Bin, w_Un, w_Nil, w_Cons, w_Tup, w_Lst, w_Box, w_Of, w_And, w_Or, w_Not, w_True, w_eAnd, w_eOr, w_eNot, w_If, w_Chain, w_oN, w_oS, w_Sl, w_Call, w_CallB, w_eJoin, w_Rev, ex_str, v_nx, v_rt, v_Skip, v_Seq, v_If, v_Ret, v_Expr, v_Set, v_Tp, v_Par, v_For, v_App, v_Mut, v_Ext, v_Put, v_PutB, ex_eqT, ex_eqL, ex_lst, ex_bl, ex_int, if_dec, w_iMap, w_iR1, w_iR2, w_iR3, w_iZ, w_iZE, w_Lc, w_LRg, v_AppPop, w_eJs, w_jsN, w_jsC, q_repL, q_gEnT, q_addT, q_shr, q_and, q_revL, q_revT, q_cat, q_lnL, p_two, q_slL, q_slT, q_add, q_sub, q_mul, q_div, q_mod, q_pow, q_shl, q_lt, q_le, q_gt, q_ge, q_max2, q_min2, q_neg, q_abs, q_intI, q_intB, q_lenT, q_lenL, q_ixT, q_ixL, q_tupL, q_tupT, q_lstL, q_lstT, q_isN, q_gL, q_gT, q_gEnL, q_eq, q_ne, okMod_iff, okAll_iff, okPow_iff, okR_iff, at0, at1, at2, at3, at4, at5, is_int_non, is_int_bl, is_int_int, is_int_str, is_int_tup, is_int_lst, is_bool_non, is_bool_bl, is_bool_int, is_bool_str, is_bool_tup, is_bool_lst, is_str_non, is_str_bl, is_str_int, is_str_str, is_str_tup, is_str_lst, is_tuple_non, is_tuple_bl, is_tuple_int, is_tuple_str, is_tuple_tup, is_tuple_lst, is_list_non, is_list_bl, is_list_int, is_list_str, is_list_tup, is_list_lst, List.map_cons, List.map_nil, List.length_cons, List.length_nil, List.cons_append, List.nil_append, List.replicate_succ, List.replicate_zero, List.getElem?_cons_zero, List.getElem?_cons_succ, List.set_cons_zero, List.set_cons_succ, List.append_nil, bindP, wipeT, setAll, Nat.reduceSub, Nat.reduceAdd, true_and, and_true, if_true, if_false, Bool.not_true, Bool.not_false, eq_self, ite_true, ite_false, reduceIte, ne_eq, not_false_eq_true, not_true_eq_false, false_or, or_false, true_or, or_true, Bool.false_eq_true]
  split
  · cases hi : isL i with
    | true =>
      simp only [w_ok, w_bind, w_of, w_fl, w_ite, w_iteN, ex_ite, ex_some, ex_map, ex_bind, w_C, w_V, w_Bin, w_Un, w_Nil, w_Cons, w_Tup, w_Lst, w_Box, w_Of, w_And, w_Or, w_Not, w_True, w_eAnd, w_eOr, w_eNot, w_If, w_Chain, w_oN, w_oS, w_Sl, w_Call, w_CallB, w_eJoin, w_Rev, ex_str, v_nx, v_rt, v_Skip, v_Seq, v_If, v_Ret, v_Expr, v_Set, v_Tp, v_Par, v_For, v_App, v_Mut, v_Ext, v_Put, v_PutB, ex_eqT, ex_eqL, ex_lst, ex_bl, ex_int, if_dec, w_iMap, w_iR1, w_iR2, w_iR3, w_iZ, w_iZE, w_Lc, w_LRg, v_AppPop, w_eJs, w_jsN, w_jsC, q_repL, q_gEnT, q_addT, q_shr, q_and, q_revL, q_revT, q_cat, q_lnL, p_two, q_slL, q_slT, q_add, q_sub, q_mul, q_div, q_mod, q_pow, q_shl, q_lt, q_le, q_gt, q_ge, q_max2, q_min2, q_neg, q_abs, q_intI, q_intB, q_lenT, q_lenL, q_ixT, q_ixL, q_tupL, q_tupT, q_lstL, q_lstT, q_isN, q_gL, q_gT, q_gEnL, q_eq, q_ne, okMod_iff, okAll_iff, okPow_iff, okR_iff, at0, at1, at2, at3, at4, at5, is_int_non, is_int_bl, is_int_int, is_int_str, is_int_tup, is_int_lst, is_bool_non, is_bool_bl, is_bool_int, is_bool_str, is_bool_tup, is_bool_lst, is_str_non, is_str_bl, is_str_int, is_str_str, is_str_tup, is_str_lst, is_tuple_non, is_tuple_bl, is_tuple_int, is_tuple_str, is_tuple_tup, is_tuple_lst, is_list_non, is_list_bl, is_list_int, is_list_str, is_list_tup, is_list_lst, List.map_cons, List.map_nil, List.length_cons, List.length_nil, List.cons_append, List.nil_append, List.replicate_succ, List.replicate_zero, List.getElem?_cons_zero, List.getElem?_cons_succ, List.set_cons_zero, List.set_cons_succ, List.append_nil, bindP, wipeT, setAll, Nat.reduceSub, Nat.reduceAdd, true_and, and_true, if_true, if_false, Bool.not_true, Bool.not_false, eq_self, ite_true, ite_false, reduceIte, ne_eq, not_false_eq_true, not_true_eq_false, false_or, or_false, true_or, or_true, Bool.false_eq_true]
      exact rest
    | false =>
      simp only [w_ok, w_bind, w_of, w_fl, w_ite, w_iteN, ex_ite, ex_some, ex_map, ex_bind, w_C, w_V, w_Bin, w_Un, w_Nil, w_Cons, w_Tup, w_Lst, w_Box, w_Of, w_And, w_Or, w_Not, w_True, w_eAnd, w_eOr, w_eNot, w_If, w_Chain, w_oN, w_oS, w_Sl, w_Call, w_CallB, w_eJoin, w_Rev, ex_str, v_nx, v_rt, v_Skip, v_Seq, v_If, v_Ret, v_Expr, v_Set, v_Tp, v_Par, v_For, v_App, v_Mut, v_Ext, v_Put, v_PutB, ex_eqT, ex_eqL, ex_lst, ex_bl, ex_int, if_dec, w_iMap, w_iR1, w_iR2, w_iR3, w_iZ, w_iZE, w_Lc, w_LRg, v_AppPop, w_eJs, w_jsN, w_jsC, q_repL, q_gEnT, q_addT, q_shr, q_and, q_revL, q_revT, q_cat, q_lnL, p_two, q_slL, q_slT, q_add, q_sub, q_mul, q_div, q_mod, q_pow, q_shl, q_lt, q_le, q_gt, q_ge, q_max2, q_min2, q_neg, q_abs, q_intI, q_intB, q_lenT, q_lenL, q_ixT, q_ixL, q_tupL, q_tupT, q_lstL, q_lstT, q_isN, q_gL, q_gT, q_gEnL, q_eq, q_ne, okMod_iff, okAll_iff, okPow_iff, okR_iff, at0, at1, at2, at3, at4, at5, is_int_non, is_int_bl, is_int_int, is_int_str, is_int_tup, is_int_lst, is_bool_non, is_bool_bl, is_bool_int, is_bool_str, is_bool_tup, is_bool_lst, is_str_non, is_str_bl, is_str_int, is_str_str, is_str_tup, is_str_lst, is_tuple_non, is_tuple_bl, is_tuple_int, is_tuple_str, is_tuple_tup, is_tuple_lst, is_list_non, is_list_bl, is_list_int, is_list_str, is_list_tup, is_list_lst, List.map_cons, List.map_nil, List.length_cons, List.length_nil, List.cons_append, List.nil_append, List.replicate_succ, List.replicate_zero, List.getElem?_cons_zero, List.getElem?_cons_succ, List.set_cons_zero, List.set_cons_succ, List.append_nil, bindP, wipeT, setAll, Nat.reduceSub, Nat.reduceAdd, true_and, and_true, if_true, if_false, Bool.not_true, Bool.not_false, eq_self, ite_true, ite_false, reduceIte, ne_eq, not_false_eq_true, not_true_eq_false, false_or, or_false, true_or, or_true, Bool.false_eq_true]
      rw [← ei]
      exact p _ _ hb2 (.inl ⟨i, rfl, hi, mi⟩)
  · exact rest
/-! _law_item_text -/
theorem item_text_is {ax : Nat} {i : Itm} {h : IH} (ax3 : ax ≤ 3) (o : OkI ax i) (m : MkOk i) : f__law_item_text [itT i] h = .ok (.str (itS i)) h := by
  have hs : (100000 : Nat) ≤ sizeLine := by decide
  have l0 : (" " : Str).length = 1 := by decide +kernel
  have l1 : ("line " : Str).length = 5 := by decide +kernel
  refine Ok.eq ?_
  unfold f__law_item_text
  rw [w_runF]
  refine ⟨rfl, ?_⟩
  have il := itS_len ax3 o m
  cases i with
  | line xs s =>
    have lo : LnOk ax xs s := o
    have qe : ∀ h : IH, gEq (.str "line") (.str "line") h = some (.bl true) := fun h => q_eqR (k := 0) (by decide) (by decide +kernel)
    have bx : ∀ x ∈ xs, x.natAbs < 10 ^ 40 := fun x mx => by have := lo.bnd x mx; omega
    have bs : s.natAbs < 10 ^ 40 := by have := lo.s1; have := lo.s2; omega
    have el : ∀ (a0 : Option T) (h : IH), lcGo (.nm 1) sTrue f__law_item_text_e1 [a0, none] (xs.map T.int) h = .ok (xs.map fun x => T.str (dg x)) h := fun a0 h =>
      lc_maps (τo := fun x => [a0, some (.int x)]) (fun _ _ => rfl) fun x mx => by
        refine Ok.eq ?_
        unfold f__law_item_text_e1
        have q := fun h : IH => q_strI (h := h) (bx x mx)
        simp only [w_ok, w_bind, w_of, w_fl, w_ite, w_iteN, ex_ite, ex_some, ex_map, ex_bind, w_C, w_V, w_Bin, w_Un, w_Nil, w_Cons, w_Tup, w_Lst, w_Box, w_Of, w_And, w_Or, w_Not, w_True, w_eAnd, w_eOr, w_eNot, w_If, w_Chain, w_oN, w_oS, w_Sl, w_Call, w_CallB, w_eJoin, w_Rev, ex_str, v_nx, v_rt, v_Skip, v_Seq, v_If, v_Ret, v_Expr, v_Set, v_Tp, v_Par, v_For, v_App, v_Mut, v_Ext, v_Put, v_PutB, ex_eqT, ex_eqL, ex_lst, ex_bl, ex_int, if_dec, w_iMap, w_iR1, w_iR2, w_iR3, w_iZ, w_iZE, w_Lc, w_LRg, v_AppPop, w_eJs, w_jsN, w_jsC, q_repL, q_gEnT, q_addT, q_shr, q_and, q_revL, q_revT, q_cat, q_lnL, p_two, q_slL, q_slT, q_add, q_sub, q_mul, q_div, q_mod, q_pow, q_shl, q_lt, q_le, q_gt, q_ge, q_max2, q_min2, q_neg, q_abs, q_intI, q_intB, q_lenT, q_lenL, q_ixT, q_ixL, q_tupL, q_tupT, q_lstL, q_lstT, q_isN, q_gL, q_gT, q_gEnL, q_eq, q_ne, okMod_iff, okAll_iff, okPow_iff, okR_iff, at0, at1, at2, at3, at4, at5, is_int_non, is_int_bl, is_int_int, is_int_str, is_int_tup, is_int_lst, is_bool_non, is_bool_bl, is_bool_int, is_bool_str, is_bool_tup, is_bool_lst, is_str_non, is_str_bl, is_str_int, is_str_str, is_str_tup, is_str_lst, is_tuple_non, is_tuple_bl, is_tuple_int, is_tuple_str, is_tuple_tup, is_tuple_lst, is_list_non, is_list_bl, is_list_int, is_list_str, is_list_tup, is_list_lst, List.map_cons, List.map_nil, List.length_cons, List.length_nil, List.cons_append, List.nil_append, List.replicate_succ, List.replicate_zero, List.getElem?_cons_zero, List.getElem?_cons_succ, List.set_cons_zero, List.set_cons_succ, List.append_nil, bindP, wipeT, setAll, Nat.reduceSub, Nat.reduceAdd, true_and, and_true, if_true, if_false, Bool.not_true, Bool.not_false, eq_self, ite_true, ite_false, reduceIte, ne_eq, not_false_eq_true, not_true_eq_false, false_or, or_false, true_or, or_true, Bool.false_eq_true, q]
    have dl := dgs_len bx
    have jl := join_len (s := " ") (zs := xs.map dg)
    have sl := dg_len bs
    have lx := lo.len
    rw [show itT (.line xs s) = lineT xs s from rfl]
    simp only [v_Seq, v_If, qe, w_ok, w_bind, w_of, w_fl, w_ite, w_iteN, ex_ite, ex_some, ex_map, ex_bind, w_C, w_V, w_Bin, w_Un, w_Nil, w_Cons, w_Tup, w_Lst, w_Box, w_Of, w_And, w_Or, w_Not, w_True, w_eAnd, w_eOr, w_eNot, w_If, w_Chain, w_oN, w_oS, w_Sl, w_Call, w_CallB, w_eJoin, w_Rev, ex_str, v_nx, v_rt, v_Skip, v_Seq, v_If, v_Ret, v_Expr, v_Set, v_Tp, v_Par, v_For, v_App, v_Mut, v_Ext, v_Put, v_PutB, ex_eqT, ex_eqL, ex_lst, ex_bl, ex_int, if_dec, w_iMap, w_iR1, w_iR2, w_iR3, w_iZ, w_iZE, w_Lc, w_LRg, v_AppPop, w_eJs, w_jsN, w_jsC, q_repL, q_gEnT, q_addT, q_shr, q_and, q_revL, q_revT, q_cat, q_lnL, p_two, q_slL, q_slT, q_add, q_sub, q_mul, q_div, q_mod, q_pow, q_shl, q_lt, q_le, q_gt, q_ge, q_max2, q_min2, q_neg, q_abs, q_intI, q_intB, q_lenT, q_lenL, q_ixT, q_ixL, q_tupL, q_tupT, q_lstL, q_lstT, q_isN, q_gL, q_gT, q_gEnL, q_eq, q_ne, okMod_iff, okAll_iff, okPow_iff, okR_iff, at0, at1, at2, at3, at4, at5, is_int_non, is_int_bl, is_int_int, is_int_str, is_int_tup, is_int_lst, is_bool_non, is_bool_bl, is_bool_int, is_bool_str, is_bool_tup, is_bool_lst, is_str_non, is_str_bl, is_str_int, is_str_str, is_str_tup, is_str_lst, is_tuple_non, is_tuple_bl, is_tuple_int, is_tuple_str, is_tuple_tup, is_tuple_lst, is_list_non, is_list_bl, is_list_int, is_list_str, is_list_tup, is_list_lst, List.map_cons, List.map_nil, List.length_cons, List.length_nil, List.cons_append, List.nil_append, List.replicate_succ, List.replicate_zero, List.getElem?_cons_zero, List.getElem?_cons_succ, List.set_cons_zero, List.set_cons_succ, List.append_nil, bindP, wipeT, setAll, Nat.reduceSub, Nat.reduceAdd, true_and, and_true, if_true, if_false, Bool.not_true, Bool.not_false, eq_self, ite_true, ite_false, reduceIte, ne_eq, not_false_eq_true, not_true_eq_false, false_or, or_false, true_or, or_true, Bool.false_eq_true]
    rw [el, w_ok]
    refine ⟨by rw [List.length_map]; omega, _, q_joinS strs_map (by omega), ?_⟩
    refine ⟨_, q_addS (by omega), _, q_addS (by rw [Str.length_append]; omega), ?_⟩
    have q := q_strI (h := h) bs
    simp only [q, w_ok, w_bind, w_of, w_fl, w_ite, w_iteN, ex_ite, ex_some, ex_map, ex_bind, w_C, w_V, w_Bin, w_Un, w_Nil, w_Cons, w_Tup, w_Lst, w_Box, w_Of, w_And, w_Or, w_Not, w_True, w_eAnd, w_eOr, w_eNot, w_If, w_Chain, w_oN, w_oS, w_Sl, w_Call, w_CallB, w_eJoin, w_Rev, ex_str, v_nx, v_rt, v_Skip, v_Seq, v_If, v_Ret, v_Expr, v_Set, v_Tp, v_Par, v_For, v_App, v_Mut, v_Ext, v_Put, v_PutB, ex_eqT, ex_eqL, ex_lst, ex_bl, ex_int, if_dec, w_iMap, w_iR1, w_iR2, w_iR3, w_iZ, w_iZE, w_Lc, w_LRg, v_AppPop, w_eJs, w_jsN, w_jsC, q_repL, q_gEnT, q_addT, q_shr, q_and, q_revL, q_revT, q_cat, q_lnL, p_two, q_slL, q_slT, q_add, q_sub, q_mul, q_div, q_mod, q_pow, q_shl, q_lt, q_le, q_gt, q_ge, q_max2, q_min2, q_neg, q_abs, q_intI, q_intB, q_lenT, q_lenL, q_ixT, q_ixL, q_tupL, q_tupT, q_lstL, q_lstT, q_isN, q_gL, q_gT, q_gEnL, q_eq, q_ne, okMod_iff, okAll_iff, okPow_iff, okR_iff, at0, at1, at2, at3, at4, at5, is_int_non, is_int_bl, is_int_int, is_int_str, is_int_tup, is_int_lst, is_bool_non, is_bool_bl, is_bool_int, is_bool_str, is_bool_tup, is_bool_lst, is_str_non, is_str_bl, is_str_int, is_str_str, is_str_tup, is_str_lst, is_tuple_non, is_tuple_bl, is_tuple_int, is_tuple_str, is_tuple_tup, is_tuple_lst, is_list_non, is_list_bl, is_list_int, is_list_str, is_list_tup, is_list_lst, List.map_cons, List.map_nil, List.length_cons, List.length_nil, List.cons_append, List.nil_append, List.replicate_succ, List.replicate_zero, List.getElem?_cons_zero, List.getElem?_cons_succ, List.set_cons_zero, List.set_cons_succ, List.append_nil, bindP, wipeT, setAll, Nat.reduceSub, Nat.reduceAdd, true_and, and_true, if_true, if_false, Bool.not_true, Bool.not_false, eq_self, ite_true, ite_false, reduceIte, ne_eq, not_false_eq_true, not_true_eq_false, false_or, or_false, true_or, or_true, Bool.false_eq_true]
    exact ⟨_, q_addS (by rw [Str.length_append, Str.length_append]; omega), rfl⟩
  | wait n =>
    have qe : ∀ h : IH, gEq (.str "wait") (.str "line") h = some (.bl false) := fun h => eq_no (k := 0) (l := 0) (by decide) (by decide) (by decide +kernel) (by decide +kernel) rfl rfl (fun z => by injection z with z; exact absurd z (by decide +kernel))
    have bn : n.natAbs < 10 ^ 40 := by have := m.1; have := m.2; omega
    have q := fun h : IH => q_strI (h := h) bn
    have sl := dg_len bn
    have lw : ("wait" : Str).length = 4 := by decide +kernel
    simp only [itT, v_Seq, v_If, qe, q, w_ok, w_bind, w_of, w_fl, w_ite, w_iteN, ex_ite, ex_some, ex_map, ex_bind, w_C, w_V, w_Bin, w_Un, w_Nil, w_Cons, w_Tup, w_Lst, w_Box, w_Of, w_And, w_Or, w_Not, w_True, w_eAnd, w_eOr, w_eNot, w_If, w_Chain, w_oN, w_oS, w_Sl, w_Call, w_CallB, w_eJoin, w_Rev, ex_str, v_nx, v_rt, v_Skip, v_Seq, v_If, v_Ret, v_Expr, v_Set, v_Tp, v_Par, v_For, v_App, v_Mut, v_Ext, v_Put, v_PutB, ex_eqT, ex_eqL, ex_lst, ex_bl, ex_int, if_dec, w_iMap, w_iR1, w_iR2, w_iR3, w_iZ, w_iZE, w_Lc, w_LRg, v_AppPop, w_eJs, w_jsN, w_jsC, q_repL, q_gEnT, q_addT, q_shr, q_and, q_revL, q_revT, q_cat, q_lnL, p_two, q_slL, q_slT, q_add, q_sub, q_mul, q_div, q_mod, q_pow, q_shl, q_lt, q_le, q_gt, q_ge, q_max2, q_min2, q_neg, q_abs, q_intI, q_intB, q_lenT, q_lenL, q_ixT, q_ixL, q_tupL, q_tupT, q_lstL, q_lstT, q_isN, q_gL, q_gT, q_gEnL, q_eq, q_ne, okMod_iff, okAll_iff, okPow_iff, okR_iff, at0, at1, at2, at3, at4, at5, is_int_non, is_int_bl, is_int_int, is_int_str, is_int_tup, is_int_lst, is_bool_non, is_bool_bl, is_bool_int, is_bool_str, is_bool_tup, is_bool_lst, is_str_non, is_str_bl, is_str_int, is_str_str, is_str_tup, is_str_lst, is_tuple_non, is_tuple_bl, is_tuple_int, is_tuple_str, is_tuple_tup, is_tuple_lst, is_list_non, is_list_bl, is_list_int, is_list_str, is_list_tup, is_list_lst, List.map_cons, List.map_nil, List.length_cons, List.length_nil, List.cons_append, List.nil_append, List.replicate_succ, List.replicate_zero, List.getElem?_cons_zero, List.getElem?_cons_succ, List.set_cons_zero, List.set_cons_succ, List.append_nil, bindP, wipeT, setAll, Nat.reduceSub, Nat.reduceAdd, true_and, and_true, if_true, if_false, Bool.not_true, Bool.not_false, eq_self, ite_true, ite_false, reduceIte, ne_eq, not_false_eq_true, not_true_eq_false, false_or, or_false, true_or, or_true, Bool.false_eq_true]
    exact ⟨_, q_addS (by omega), _, q_addS (by rw [Str.length_append]; omega), rfl⟩
  | tool b =>
    have qe : ∀ h : IH, gEq (.str "tool") (.str "line") h = some (.bl false) := fun h => eq_no (k := 0) (l := 0) (by decide) (by decide) (by decide +kernel) (by decide +kernel) rfl rfl (fun z => by injection z with z; exact absurd z (by decide +kernel))
    have lw : ("tool" : Str).length = 4 := by decide +kernel
    have lb : (if b = true then ("up" : Str) else "down").length ≤ 4 := by cases b <;> decide +kernel
    simp only [itT, v_Seq, v_If, qe, q_strS, w_ok, w_bind, w_of, w_fl, w_ite, w_iteN, ex_ite, ex_some, ex_map, ex_bind, w_C, w_V, w_Bin, w_Un, w_Nil, w_Cons, w_Tup, w_Lst, w_Box, w_Of, w_And, w_Or, w_Not, w_True, w_eAnd, w_eOr, w_eNot, w_If, w_Chain, w_oN, w_oS, w_Sl, w_Call, w_CallB, w_eJoin, w_Rev, ex_str, v_nx, v_rt, v_Skip, v_Seq, v_If, v_Ret, v_Expr, v_Set, v_Tp, v_Par, v_For, v_App, v_Mut, v_Ext, v_Put, v_PutB, ex_eqT, ex_eqL, ex_lst, ex_bl, ex_int, if_dec, w_iMap, w_iR1, w_iR2, w_iR3, w_iZ, w_iZE, w_Lc, w_LRg, v_AppPop, w_eJs, w_jsN, w_jsC, q_repL, q_gEnT, q_addT, q_shr, q_and, q_revL, q_revT, q_cat, q_lnL, p_two, q_slL, q_slT, q_add, q_sub, q_mul, q_div, q_mod, q_pow, q_shl, q_lt, q_le, q_gt, q_ge, q_max2, q_min2, q_neg, q_abs, q_intI, q_intB, q_lenT, q_lenL, q_ixT, q_ixL, q_tupL, q_tupT, q_lstL, q_lstT, q_isN, q_gL, q_gT, q_gEnL, q_eq, q_ne, okMod_iff, okAll_iff, okPow_iff, okR_iff, at0, at1, at2, at3, at4, at5, is_int_non, is_int_bl, is_int_int, is_int_str, is_int_tup, is_int_lst, is_bool_non, is_bool_bl, is_bool_int, is_bool_str, is_bool_tup, is_bool_lst, is_str_non, is_str_bl, is_str_int, is_str_str, is_str_tup, is_str_lst, is_tuple_non, is_tuple_bl, is_tuple_int, is_tuple_str, is_tuple_tup, is_tuple_lst, is_list_non, is_list_bl, is_list_int, is_list_str, is_list_tup, is_list_lst, List.map_cons, List.map_nil, List.length_cons, List.length_nil, List.cons_append, List.nil_append, List.replicate_succ, List.replicate_zero, List.getElem?_cons_zero, List.getElem?_cons_succ, List.set_cons_zero, List.set_cons_succ, List.append_nil, bindP, wipeT, setAll, Nat.reduceSub, Nat.reduceAdd, true_and, and_true, if_true, if_false, Bool.not_true, Bool.not_false, eq_self, ite_true, ite_false, reduceIte, ne_eq, not_false_eq_true, not_true_eq_false, false_or, or_false, true_or, or_true, Bool.false_eq_true]
    exact ⟨_, q_addS (by omega), _, q_addS (by rw [Str.length_append]; omega), by cases b <;> rfl⟩
  | mark z =>
    have qe : ∀ h : IH, gEq (.str "mark") (.str "line") h = some (.bl false) := fun h => eq_no (k := 0) (l := 0) (by decide) (by decide) (by decide +kernel) (by decide +kernel) rfl rfl (fun z => by injection z with z; exact absurd z (by decide +kernel))
    have lw : ("mark" : Str).length = 4 := by decide +kernel
    have lz := m.2
    simp only [itT, v_Seq, v_If, qe, q_strS, w_ok, w_bind, w_of, w_fl, w_ite, w_iteN, ex_ite, ex_some, ex_map, ex_bind, w_C, w_V, w_Bin, w_Un, w_Nil, w_Cons, w_Tup, w_Lst, w_Box, w_Of, w_And, w_Or, w_Not, w_True, w_eAnd, w_eOr, w_eNot, w_If, w_Chain, w_oN, w_oS, w_Sl, w_Call, w_CallB, w_eJoin, w_Rev, ex_str, v_nx, v_rt, v_Skip, v_Seq, v_If, v_Ret, v_Expr, v_Set, v_Tp, v_Par, v_For, v_App, v_Mut, v_Ext, v_Put, v_PutB, ex_eqT, ex_eqL, ex_lst, ex_bl, ex_int, if_dec, w_iMap, w_iR1, w_iR2, w_iR3, w_iZ, w_iZE, w_Lc, w_LRg, v_AppPop, w_eJs, w_jsN, w_jsC, q_repL, q_gEnT, q_addT, q_shr, q_and, q_revL, q_revT, q_cat, q_lnL, p_two, q_slL, q_slT, q_add, q_sub, q_mul, q_div, q_mod, q_pow, q_shl, q_lt, q_le, q_gt, q_ge, q_max2, q_min2, q_neg, q_abs, q_intI, q_intB, q_lenT, q_lenL, q_ixT, q_ixL, q_tupL, q_tupT, q_lstL, q_lstT, q_isN, q_gL, q_gT, q_gEnL, q_eq, q_ne, okMod_iff, okAll_iff, okPow_iff, okR_iff, at0, at1, at2, at3, at4, at5, is_int_non, is_int_bl, is_int_int, is_int_str, is_int_tup, is_int_lst, is_bool_non, is_bool_bl, is_bool_int, is_bool_str, is_bool_tup, is_bool_lst, is_str_non, is_str_bl, is_str_int, is_str_str, is_str_tup, is_str_lst, is_tuple_non, is_tuple_bl, is_tuple_int, is_tuple_str, is_tuple_tup, is_tuple_lst, is_list_non, is_list_bl, is_list_int, is_list_str, is_list_tup, is_list_lst, List.map_cons, List.map_nil, List.length_cons, List.length_nil, List.cons_append, List.nil_append, List.replicate_succ, List.replicate_zero, List.getElem?_cons_zero, List.getElem?_cons_succ, List.set_cons_zero, List.set_cons_succ, List.append_nil, bindP, wipeT, setAll, Nat.reduceSub, Nat.reduceAdd, true_and, and_true, if_true, if_false, Bool.not_true, Bool.not_false, eq_self, ite_true, ite_false, reduceIte, ne_eq, not_false_eq_true, not_true_eq_false, false_or, or_false, true_or, or_true, Bool.false_eq_true]
    exact ⟨_, q_addS (by omega), _, q_addS (by rw [Str.length_append]; omega), rfl⟩
/-! _law_right -/
theorem right_is {z : Str} {h : IH} (e : PyData.strOk z = true) : f__law_right [.str z, .str z] h = .ok (.bl true) h := by
  refine Ok.eq ?_
  unfold f__law_right
  rw [w_runF]
  refine ⟨rfl, ?_⟩
  simp only [w_ok, w_bind, w_of, w_fl, w_ite, w_iteN, ex_ite, ex_some, ex_map, ex_bind, w_C, w_V, w_Bin, w_Un, w_Nil, w_Cons, w_Tup, w_Lst, w_Box, w_Of, w_And, w_Or, w_Not, w_True, w_eAnd, w_eOr, w_eNot, w_If, w_Chain, w_oN, w_oS, w_Sl, w_Call, w_CallB, w_eJoin, w_Rev, ex_str, v_nx, v_rt, v_Skip, v_Seq, v_If, v_Ret, v_Expr, v_Set, v_Tp, v_Par, v_For, v_App, v_Mut, v_Ext, v_Put, v_PutB, ex_eqT, ex_eqL, ex_lst, ex_bl, ex_int, if_dec, w_iMap, w_iR1, w_iR2, w_iR3, w_iZ, w_iZE, w_Lc, w_LRg, v_AppPop, w_eJs, w_jsN, w_jsC, q_repL, q_gEnT, q_addT, q_shr, q_and, q_revL, q_revT, q_cat, q_lnL, p_two, q_slL, q_slT, q_add, q_sub, q_mul, q_div, q_mod, q_pow, q_shl, q_lt, q_le, q_gt, q_ge, q_max2, q_min2, q_neg, q_abs, q_intI, q_intB, q_lenT, q_lenL, q_ixT, q_ixL, q_tupL, q_tupT, q_lstL, q_lstT, q_isN, q_gL, q_gT, q_gEnL, q_eq, q_ne, okMod_iff, okAll_iff, okPow_iff, okR_iff, at0, at1, at2, at3, at4, at5, is_int_non, is_int_bl, is_int_int, is_int_str, is_int_tup, is_int_lst, is_bool_non, is_bool_bl, is_bool_int, is_bool_str, is_bool_tup, is_bool_lst, is_str_non, is_str_bl, is_str_int, is_str_str, is_str_tup, is_str_lst, is_tuple_non, is_tuple_bl, is_tuple_int, is_tuple_str, is_tuple_tup, is_tuple_lst, is_list_non, is_list_bl, is_list_int, is_list_str, is_list_tup, is_list_lst, List.map_cons, List.map_nil, List.length_cons, List.length_nil, List.cons_append, List.nil_append, List.replicate_succ, List.replicate_zero, List.getElem?_cons_zero, List.getElem?_cons_succ, List.set_cons_zero, List.set_cons_succ, List.append_nil, bindP, wipeT, setAll, Nat.reduceSub, Nat.reduceAdd, true_and, and_true, if_true, if_false, Bool.not_true, Bool.not_false, eq_self, ite_true, ite_false, reduceIte, ne_eq, not_false_eq_true, not_true_eq_false, false_or, or_false, true_or, or_true, Bool.false_eq_true, eq_str e]
/-! show_fraction -/
theorem show_fraction_is {a b : Int} {h : IH} (ha : a.natAbs < 10 ^ 40) (hb : b.natAbs < 10 ^ 40) : f_show_fraction [.tup [.int a, .int b]] h = .ok (.str (frS a b)) h := by
  have hs : (100000 : Nat) ≤ sizeLine := by decide
  have l0 : ("/" : Str).length = 1 := by decide +kernel
  refine Ok.eq ?_
  unfold f_show_fraction
  rw [w_runF]
  refine ⟨rfl, ?_⟩
  have qa := fun h : IH => q_strI (h := h) ha
  have fa := fun h : IH => q_fmtI (h := h) ha
  have fb := fun h : IH => q_fmtI (h := h) hb
  have la := dg_len ha
  have lb := dg_len hb
  by_cases z : b = 1
  · have e : frS a b = dg a := by unfold frS; rw [if_pos z]
    rw [e]
    simp only [z, decide_true, v_Seq, v_If, qa, w_ok, w_bind, w_of, w_fl, w_ite, w_iteN, ex_ite, ex_some, ex_map, ex_bind, w_C, w_V, w_Bin, w_Un, w_Nil, w_Cons, w_Tup, w_Lst, w_Box, w_Of, w_And, w_Or, w_Not, w_True, w_eAnd, w_eOr, w_eNot, w_If, w_Chain, w_oN, w_oS, w_Sl, w_Call, w_CallB, w_eJoin, w_Rev, ex_str, v_nx, v_rt, v_Skip, v_Seq, v_If, v_Ret, v_Expr, v_Set, v_Tp, v_Par, v_For, v_App, v_Mut, v_Ext, v_Put, v_PutB, ex_eqT, ex_eqL, ex_lst, ex_bl, ex_int, if_dec, w_iMap, w_iR1, w_iR2, w_iR3, w_iZ, w_iZE, w_Lc, w_LRg, v_AppPop, w_eJs, w_jsN, w_jsC, q_repL, q_gEnT, q_addT, q_shr, q_and, q_revL, q_revT, q_cat, q_lnL, p_two, q_slL, q_slT, q_add, q_sub, q_mul, q_div, q_mod, q_pow, q_shl, q_lt, q_le, q_gt, q_ge, q_max2, q_min2, q_neg, q_abs, q_intI, q_intB, q_lenT, q_lenL, q_ixT, q_ixL, q_tupL, q_tupT, q_lstL, q_lstT, q_isN, q_gL, q_gT, q_gEnL, q_eq, q_ne, okMod_iff, okAll_iff, okPow_iff, okR_iff, at0, at1, at2, at3, at4, at5, is_int_non, is_int_bl, is_int_int, is_int_str, is_int_tup, is_int_lst, is_bool_non, is_bool_bl, is_bool_int, is_bool_str, is_bool_tup, is_bool_lst, is_str_non, is_str_bl, is_str_int, is_str_str, is_str_tup, is_str_lst, is_tuple_non, is_tuple_bl, is_tuple_int, is_tuple_str, is_tuple_tup, is_tuple_lst, is_list_non, is_list_bl, is_list_int, is_list_str, is_list_tup, is_list_lst, List.map_cons, List.map_nil, List.length_cons, List.length_nil, List.cons_append, List.nil_append, List.replicate_succ, List.replicate_zero, List.getElem?_cons_zero, List.getElem?_cons_succ, List.set_cons_zero, List.set_cons_succ, List.append_nil, bindP, wipeT, setAll, Nat.reduceSub, Nat.reduceAdd, true_and, and_true, if_true, if_false, Bool.not_true, Bool.not_false, eq_self, ite_true, ite_false, reduceIte, ne_eq, not_false_eq_true, not_true_eq_false, false_or, or_false, true_or, or_true, Bool.false_eq_true]
  · have e : frS a b = dg a ++ "/" ++ dg b := by unfold frS; rw [if_neg z]
    rw [e]
    simp only [z, decide_false, v_Seq, v_If, fa, fb, w_ok, w_bind, w_of, w_fl, w_ite, w_iteN, ex_ite, ex_some, ex_map, ex_bind, w_C, w_V, w_Bin, w_Un, w_Nil, w_Cons, w_Tup, w_Lst, w_Box, w_Of, w_And, w_Or, w_Not, w_True, w_eAnd, w_eOr, w_eNot, w_If, w_Chain, w_oN, w_oS, w_Sl, w_Call, w_CallB, w_eJoin, w_Rev, ex_str, v_nx, v_rt, v_Skip, v_Seq, v_If, v_Ret, v_Expr, v_Set, v_Tp, v_Par, v_For, v_App, v_Mut, v_Ext, v_Put, v_PutB, ex_eqT, ex_eqL, ex_lst, ex_bl, ex_int, if_dec, w_iMap, w_iR1, w_iR2, w_iR3, w_iZ, w_iZE, w_Lc, w_LRg, v_AppPop, w_eJs, w_jsN, w_jsC, q_repL, q_gEnT, q_addT, q_shr, q_and, q_revL, q_revT, q_cat, q_lnL, p_two, q_slL, q_slT, q_add, q_sub, q_mul, q_div, q_mod, q_pow, q_shl, q_lt, q_le, q_gt, q_ge, q_max2, q_min2, q_neg, q_abs, q_intI, q_intB, q_lenT, q_lenL, q_ixT, q_ixL, q_tupL, q_tupT, q_lstL, q_lstT, q_isN, q_gL, q_gT, q_gEnL, q_eq, q_ne, okMod_iff, okAll_iff, okPow_iff, okR_iff, at0, at1, at2, at3, at4, at5, is_int_non, is_int_bl, is_int_int, is_int_str, is_int_tup, is_int_lst, is_bool_non, is_bool_bl, is_bool_int, is_bool_str, is_bool_tup, is_bool_lst, is_str_non, is_str_bl, is_str_int, is_str_str, is_str_tup, is_str_lst, is_tuple_non, is_tuple_bl, is_tuple_int, is_tuple_str, is_tuple_tup, is_tuple_lst, is_list_non, is_list_bl, is_list_int, is_list_str, is_list_tup, is_list_lst, List.map_cons, List.map_nil, List.length_cons, List.length_nil, List.cons_append, List.nil_append, List.replicate_succ, List.replicate_zero, List.getElem?_cons_zero, List.getElem?_cons_succ, List.set_cons_zero, List.set_cons_succ, List.append_nil, bindP, wipeT, setAll, Nat.reduceSub, Nat.reduceAdd, true_and, and_true, if_true, if_false, Bool.not_true, Bool.not_false, eq_self, ite_true, ite_false, reduceIte, ne_eq, not_false_eq_true, not_true_eq_false, false_or, or_false, true_or, or_true, Bool.false_eq_true]
    refine ⟨by rw [Str.empty_append]; omega, by rw [Str.empty_append, Str.length_append]; omega, by rw [Str.empty_append, Str.length_append, Str.length_append]; omega, ?_⟩
    rw [Str.empty_append]
    all_goals first | rfl | trivial
/-! _law_fraction_text -/
theorem fraction_text_is {a b : Int} {h : IH} (ha : a.natAbs < 10 ^ 40) (hb : b.natAbs < 10 ^ 40) : f__law_fraction_text [.tup [.int a, .int b]] h = .ok (.str (frS a b)) h := by
  have hs : (100000 : Nat) ≤ sizeLine := by decide
  have l0 : ("/" : Str).length = 1 := by decide +kernel
  refine Ok.eq ?_
  unfold f__law_fraction_text
  rw [w_runF]
  refine ⟨rfl, ?_⟩
  have qa := fun h : IH => q_strI (h := h) ha
  have qb := fun h : IH => q_strI (h := h) hb
  have la := dg_len ha
  have lb := dg_len hb
  by_cases z : b = 1
  · have e : frS a b = dg a := by unfold frS; rw [if_pos z]
    rw [e]
    simp only [z, decide_true, v_Seq, v_If, qa, w_ok, w_bind, w_of, w_fl, w_ite, w_iteN, ex_ite, ex_some, ex_map, ex_bind, w_C, w_V, w_Bin, w_Un, w_Nil, w_Cons, w_Tup, w_Lst, w_Box, w_Of, w_And, w_Or, w_Not, w_True, w_eAnd, w_eOr, w_eNot, w_If, w_Chain, w_oN, w_oS, w_Sl, w_Call, w_CallB, w_eJoin, w_Rev, ex_str, v_nx, v_rt, v_Skip, v_Seq, v_If, v_Ret, v_Expr, v_Set, v_Tp, v_Par, v_For, v_App, v_Mut, v_Ext, v_Put, v_PutB, ex_eqT, ex_eqL, ex_lst, ex_bl, ex_int, if_dec, w_iMap, w_iR1, w_iR2, w_iR3, w_iZ, w_iZE, w_Lc, w_LRg, v_AppPop, w_eJs, w_jsN, w_jsC, q_repL, q_gEnT, q_addT, q_shr, q_and, q_revL, q_revT, q_cat, q_lnL, p_two, q_slL, q_slT, q_add, q_sub, q_mul, q_div, q_mod, q_pow, q_shl, q_lt, q_le, q_gt, q_ge, q_max2, q_min2, q_neg, q_abs, q_intI, q_intB, q_lenT, q_lenL, q_ixT, q_ixL, q_tupL, q_tupT, q_lstL, q_lstT, q_isN, q_gL, q_gT, q_gEnL, q_eq, q_ne, okMod_iff, okAll_iff, okPow_iff, okR_iff, at0, at1, at2, at3, at4, at5, is_int_non, is_int_bl, is_int_int, is_int_str, is_int_tup, is_int_lst, is_bool_non, is_bool_bl, is_bool_int, is_bool_str, is_bool_tup, is_bool_lst, is_str_non, is_str_bl, is_str_int, is_str_str, is_str_tup, is_str_lst, is_tuple_non, is_tuple_bl, is_tuple_int, is_tuple_str, is_tuple_tup, is_tuple_lst, is_list_non, is_list_bl, is_list_int, is_list_str, is_list_tup, is_list_lst, List.map_cons, List.map_nil, List.length_cons, List.length_nil, List.cons_append, List.nil_append, List.replicate_succ, List.replicate_zero, List.getElem?_cons_zero, List.getElem?_cons_succ, List.set_cons_zero, List.set_cons_succ, List.append_nil, bindP, wipeT, setAll, Nat.reduceSub, Nat.reduceAdd, true_and, and_true, if_true, if_false, Bool.not_true, Bool.not_false, eq_self, ite_true, ite_false, reduceIte, ne_eq, not_false_eq_true, not_true_eq_false, false_or, or_false, true_or, or_true, Bool.false_eq_true]
  · have e : frS a b = dg a ++ "/" ++ dg b := by unfold frS; rw [if_neg z]
    rw [e]
    simp only [z, decide_false, v_Seq, v_If, qa, qb, w_ok, w_bind, w_of, w_fl, w_ite, w_iteN, ex_ite, ex_some, ex_map, ex_bind, w_C, w_V, w_Bin, w_Un, w_Nil, w_Cons, w_Tup, w_Lst, w_Box, w_Of, w_And, w_Or, w_Not, w_True, w_eAnd, w_eOr, w_eNot, w_If, w_Chain, w_oN, w_oS, w_Sl, w_Call, w_CallB, w_eJoin, w_Rev, ex_str, v_nx, v_rt, v_Skip, v_Seq, v_If, v_Ret, v_Expr, v_Set, v_Tp, v_Par, v_For, v_App, v_Mut, v_Ext, v_Put, v_PutB, ex_eqT, ex_eqL, ex_lst, ex_bl, ex_int, if_dec, w_iMap, w_iR1, w_iR2, w_iR3, w_iZ, w_iZE, w_Lc, w_LRg, v_AppPop, w_eJs, w_jsN, w_jsC, q_repL, q_gEnT, q_addT, q_shr, q_and, q_revL, q_revT, q_cat, q_lnL, p_two, q_slL, q_slT, q_add, q_sub, q_mul, q_div, q_mod, q_pow, q_shl, q_lt, q_le, q_gt, q_ge, q_max2, q_min2, q_neg, q_abs, q_intI, q_intB, q_lenT, q_lenL, q_ixT, q_ixL, q_tupL, q_tupT, q_lstL, q_lstT, q_isN, q_gL, q_gT, q_gEnL, q_eq, q_ne, okMod_iff, okAll_iff, okPow_iff, okR_iff, at0, at1, at2, at3, at4, at5, is_int_non, is_int_bl, is_int_int, is_int_str, is_int_tup, is_int_lst, is_bool_non, is_bool_bl, is_bool_int, is_bool_str, is_bool_tup, is_bool_lst, is_str_non, is_str_bl, is_str_int, is_str_str, is_str_tup, is_str_lst, is_tuple_non, is_tuple_bl, is_tuple_int, is_tuple_str, is_tuple_tup, is_tuple_lst, is_list_non, is_list_bl, is_list_int, is_list_str, is_list_tup, is_list_lst, List.map_cons, List.map_nil, List.length_cons, List.length_nil, List.cons_append, List.nil_append, List.replicate_succ, List.replicate_zero, List.getElem?_cons_zero, List.getElem?_cons_succ, List.set_cons_zero, List.set_cons_succ, List.append_nil, bindP, wipeT, setAll, Nat.reduceSub, Nat.reduceAdd, true_and, and_true, if_true, if_false, Bool.not_true, Bool.not_false, eq_self, ite_true, ite_false, reduceIte, ne_eq, not_false_eq_true, not_true_eq_false, false_or, or_false, true_or, or_true, Bool.false_eq_true]
    exact ⟨_, q_addS (by omega), _, q_addS (by rw [Str.length_append]; omega), rfl⟩
/-! show_item -/
theorem show_item_is {ax : Nat} {i : Itm} {h : IH} (ax3 : ax ≤ 3) (o : OkI ax i) (m : MkOk i) : f_show_item [itT i] h = .ok (.str (itS i)) h := by
  have hs : (100000 : Nat) ≤ sizeLine := by decide
  have l0 : (" " : Str).length = 1 := by decide +kernel
  have l1 : ("line" : Str).length = 4 := by decide +kernel
  refine Ok.eq ?_
  unfold f_show_item
  rw [w_runF]
  refine ⟨rfl, ?_⟩
  cases i with
  | line xs s =>
    have lo : LnOk ax xs s := o
    have qe : ∀ h : IH, gEq (.str "line") (.str "line") h = some (.bl true) := fun h => q_eqR (k := 0) (by decide) (by decide +kernel)
    have bx : ∀ x ∈ xs, x.natAbs < 10 ^ 40 := fun x mx => by have := lo.bnd x mx; omega
    have bs : s.natAbs < 10 ^ 40 := by have := lo.s1; have := lo.s2; omega
    have el : ∀ (a0 : Option T) (h : IH), lcGo (.nm 1) sTrue f_show_item_e1 [a0, none] (xs.map T.int) h = .ok (xs.map fun x => T.str (dg x)) h := fun a0 h =>
      lc_maps (τo := fun x => [a0, some (.int x)]) (fun _ _ => rfl) fun x mx => by
        refine Ok.eq ?_
        unfold f_show_item_e1
        have q := fun h : IH => q_strI (h := h) (bx x mx)
        simp only [w_ok, w_bind, w_of, w_fl, w_ite, w_iteN, ex_ite, ex_some, ex_map, ex_bind, w_C, w_V, w_Bin, w_Un, w_Nil, w_Cons, w_Tup, w_Lst, w_Box, w_Of, w_And, w_Or, w_Not, w_True, w_eAnd, w_eOr, w_eNot, w_If, w_Chain, w_oN, w_oS, w_Sl, w_Call, w_CallB, w_eJoin, w_Rev, ex_str, v_nx, v_rt, v_Skip, v_Seq, v_If, v_Ret, v_Expr, v_Set, v_Tp, v_Par, v_For, v_App, v_Mut, v_Ext, v_Put, v_PutB, ex_eqT, ex_eqL, ex_lst, ex_bl, ex_int, if_dec, w_iMap, w_iR1, w_iR2, w_iR3, w_iZ, w_iZE, w_Lc, w_LRg, v_AppPop, w_eJs, w_jsN, w_jsC, q_repL, q_gEnT, q_addT, q_shr, q_and, q_revL, q_revT, q_cat, q_lnL, p_two, q_slL, q_slT, q_add, q_sub, q_mul, q_div, q_mod, q_pow, q_shl, q_lt, q_le, q_gt, q_ge, q_max2, q_min2, q_neg, q_abs, q_intI, q_intB, q_lenT, q_lenL, q_ixT, q_ixL, q_tupL, q_tupT, q_lstL, q_lstT, q_isN, q_gL, q_gT, q_gEnL, q_eq, q_ne, okMod_iff, okAll_iff, okPow_iff, okR_iff, at0, at1, at2, at3, at4, at5, is_int_non, is_int_bl, is_int_int, is_int_str, is_int_tup, is_int_lst, is_bool_non, is_bool_bl, is_bool_int, is_bool_str, is_bool_tup, is_bool_lst, is_str_non, is_str_bl, is_str_int, is_str_str, is_str_tup, is_str_lst, is_tuple_non, is_tuple_bl, is_tuple_int, is_tuple_str, is_tuple_tup, is_tuple_lst, is_list_non, is_list_bl, is_list_int, is_list_str, is_list_tup, is_list_lst, List.map_cons, List.map_nil, List.length_cons, List.length_nil, List.cons_append, List.nil_append, List.replicate_succ, List.replicate_zero, List.getElem?_cons_zero, List.getElem?_cons_succ, List.set_cons_zero, List.set_cons_succ, List.append_nil, bindP, wipeT, setAll, Nat.reduceSub, Nat.reduceAdd, true_and, and_true, if_true, if_false, Bool.not_true, Bool.not_false, eq_self, ite_true, ite_false, reduceIte, ne_eq, not_false_eq_true, not_true_eq_false, false_or, or_false, true_or, or_true, Bool.false_eq_true, q]
    have dl := dgs_len bx
    have sl := dg_len bs
    have lx := lo.len
    have q := fun h : IH => q_strI (h := h) bs
    have ql : (xs.map fun x => T.str (dg x)).length = xs.length := List.length_map ..
    rw [show itT (.line xs s) = lineT xs s from rfl]
    simp only [v_Seq, v_If, qe, q, w_ok, w_bind, w_of, w_fl, w_ite, w_iteN, ex_ite, ex_some, ex_map, ex_bind, w_C, w_V, w_Bin, w_Un, w_Nil, w_Cons, w_Tup, w_Lst, w_Box, w_Of, w_And, w_Or, w_Not, w_True, w_eAnd, w_eOr, w_eNot, w_If, w_Chain, w_oN, w_oS, w_Sl, w_Call, w_CallB, w_eJoin, w_Rev, ex_str, v_nx, v_rt, v_Skip, v_Seq, v_If, v_Ret, v_Expr, v_Set, v_Tp, v_Par, v_For, v_App, v_Mut, v_Ext, v_Put, v_PutB, ex_eqT, ex_eqL, ex_lst, ex_bl, ex_int, if_dec, w_iMap, w_iR1, w_iR2, w_iR3, w_iZ, w_iZE, w_Lc, w_LRg, v_AppPop, w_eJs, w_jsN, w_jsC, q_repL, q_gEnT, q_addT, q_shr, q_and, q_revL, q_revT, q_cat, q_lnL, p_two, q_slL, q_slT, q_add, q_sub, q_mul, q_div, q_mod, q_pow, q_shl, q_lt, q_le, q_gt, q_ge, q_max2, q_min2, q_neg, q_abs, q_intI, q_intB, q_lenT, q_lenL, q_ixT, q_ixL, q_tupL, q_tupT, q_lstL, q_lstT, q_isN, q_gL, q_gT, q_gEnL, q_eq, q_ne, okMod_iff, okAll_iff, okPow_iff, okR_iff, at0, at1, at2, at3, at4, at5, is_int_non, is_int_bl, is_int_int, is_int_str, is_int_tup, is_int_lst, is_bool_non, is_bool_bl, is_bool_int, is_bool_str, is_bool_tup, is_bool_lst, is_str_non, is_str_bl, is_str_int, is_str_str, is_str_tup, is_str_lst, is_tuple_non, is_tuple_bl, is_tuple_int, is_tuple_str, is_tuple_tup, is_tuple_lst, is_list_non, is_list_bl, is_list_int, is_list_str, is_list_tup, is_list_lst, List.map_cons, List.map_nil, List.length_cons, List.length_nil, List.cons_append, List.nil_append, List.replicate_succ, List.replicate_zero, List.getElem?_cons_zero, List.getElem?_cons_succ, List.set_cons_zero, List.set_cons_succ, List.append_nil, bindP, wipeT, setAll, Nat.reduceSub, Nat.reduceAdd, true_and, and_true, if_true, if_false, Bool.not_true, Bool.not_false, eq_self, ite_true, ite_false, reduceIte, ne_eq, not_false_eq_true, not_true_eq_false, false_or, or_false, true_or, or_true, Bool.false_eq_true]
    refine ⟨by omega, ?_⟩
    rw [el, w_ok]
    simp only [q, w_ok, w_bind, w_of, w_fl, w_ite, w_iteN, ex_ite, ex_some, ex_map, ex_bind, w_C, w_V, w_Bin, w_Un, w_Nil, w_Cons, w_Tup, w_Lst, w_Box, w_Of, w_And, w_Or, w_Not, w_True, w_eAnd, w_eOr, w_eNot, w_If, w_Chain, w_oN, w_oS, w_Sl, w_Call, w_CallB, w_eJoin, w_Rev, ex_str, v_nx, v_rt, v_Skip, v_Seq, v_If, v_Ret, v_Expr, v_Set, v_Tp, v_Par, v_For, v_App, v_Mut, v_Ext, v_Put, v_PutB, ex_eqT, ex_eqL, ex_lst, ex_bl, ex_int, if_dec, w_iMap, w_iR1, w_iR2, w_iR3, w_iZ, w_iZE, w_Lc, w_LRg, v_AppPop, w_eJs, w_jsN, w_jsC, q_repL, q_gEnT, q_addT, q_shr, q_and, q_revL, q_revT, q_cat, q_lnL, p_two, q_slL, q_slT, q_add, q_sub, q_mul, q_div, q_mod, q_pow, q_shl, q_lt, q_le, q_gt, q_ge, q_max2, q_min2, q_neg, q_abs, q_intI, q_intB, q_lenT, q_lenL, q_ixT, q_ixL, q_tupL, q_tupT, q_lstL, q_lstT, q_isN, q_gL, q_gT, q_gEnL, q_eq, q_ne, okMod_iff, okAll_iff, okPow_iff, okR_iff, at0, at1, at2, at3, at4, at5, is_int_non, is_int_bl, is_int_int, is_int_str, is_int_tup, is_int_lst, is_bool_non, is_bool_bl, is_bool_int, is_bool_str, is_bool_tup, is_bool_lst, is_str_non, is_str_bl, is_str_int, is_str_str, is_str_tup, is_str_lst, is_tuple_non, is_tuple_bl, is_tuple_int, is_tuple_str, is_tuple_tup, is_tuple_lst, is_list_non, is_list_bl, is_list_int, is_list_str, is_list_tup, is_list_lst, List.map_cons, List.map_nil, List.length_cons, List.length_nil, List.cons_append, List.nil_append, List.replicate_succ, List.replicate_zero, List.getElem?_cons_zero, List.getElem?_cons_succ, List.set_cons_zero, List.set_cons_succ, List.append_nil, bindP, wipeT, setAll, Nat.reduceSub, Nat.reduceAdd, true_and, and_true, if_true, if_false, Bool.not_true, Bool.not_false, eq_self, ite_true, ite_false, reduceIte, ne_eq, not_false_eq_true, not_true_eq_false, false_or, or_false, true_or, or_true, Bool.false_eq_true, List.length_map]
    refine ⟨by omega, by omega, by omega, by omega, ?_⟩
    refine ⟨_, q_joinS (zs := ([("line" : Str)] ++ xs.map dg) ++ [dg s]) (strs_app (ts := T.str "line" :: xs.map fun x => T.str (dg x)) (strs_app (ts := [T.str "line"]) rfl strs_map) rfl) ?_, ?_⟩
    · simp only [List.map_append, List.map_cons, List.map_nil, List.sum_append, List.sum_cons, List.sum_nil, List.length_append, List.length_cons, List.length_nil, l0, Nat.mul_one, List.length_map] at dl ⊢
      omega
    · rw [itS_line lo.ne]
      all_goals first | rfl | trivial | exact ⟨rfl, rfl⟩
  | wait n =>
    have qe : ∀ h : IH, gEq (.str "wait") (.str "line") h = some (.bl false) := fun h => eq_no (k := 0) (l := 0) (by decide) (by decide) (by decide +kernel) (by decide +kernel) rfl rfl (fun z => by injection z with z; exact absurd z (by decide +kernel))
    have bn : n.natAbs < 10 ^ 40 := by have := m.1; have := m.2; omega
    have q := fun h : IH => q_fmtI (h := h) bn
    have sl := dg_len bn
    have lw : ("wait" : Str).length = 4 := by decide +kernel
    have qw := fun h : IH => q_fmtS (h := h) (a := "wait") (by omega)
    simp only [itT, v_Seq, v_If, qe, q, qw, w_ok, w_bind, w_of, w_fl, w_ite, w_iteN, ex_ite, ex_some, ex_map, ex_bind, w_C, w_V, w_Bin, w_Un, w_Nil, w_Cons, w_Tup, w_Lst, w_Box, w_Of, w_And, w_Or, w_Not, w_True, w_eAnd, w_eOr, w_eNot, w_If, w_Chain, w_oN, w_oS, w_Sl, w_Call, w_CallB, w_eJoin, w_Rev, ex_str, v_nx, v_rt, v_Skip, v_Seq, v_If, v_Ret, v_Expr, v_Set, v_Tp, v_Par, v_For, v_App, v_Mut, v_Ext, v_Put, v_PutB, ex_eqT, ex_eqL, ex_lst, ex_bl, ex_int, if_dec, w_iMap, w_iR1, w_iR2, w_iR3, w_iZ, w_iZE, w_Lc, w_LRg, v_AppPop, w_eJs, w_jsN, w_jsC, q_repL, q_gEnT, q_addT, q_shr, q_and, q_revL, q_revT, q_cat, q_lnL, p_two, q_slL, q_slT, q_add, q_sub, q_mul, q_div, q_mod, q_pow, q_shl, q_lt, q_le, q_gt, q_ge, q_max2, q_min2, q_neg, q_abs, q_intI, q_intB, q_lenT, q_lenL, q_ixT, q_ixL, q_tupL, q_tupT, q_lstL, q_lstT, q_isN, q_gL, q_gT, q_gEnL, q_eq, q_ne, okMod_iff, okAll_iff, okPow_iff, okR_iff, at0, at1, at2, at3, at4, at5, is_int_non, is_int_bl, is_int_int, is_int_str, is_int_tup, is_int_lst, is_bool_non, is_bool_bl, is_bool_int, is_bool_str, is_bool_tup, is_bool_lst, is_str_non, is_str_bl, is_str_int, is_str_str, is_str_tup, is_str_lst, is_tuple_non, is_tuple_bl, is_tuple_int, is_tuple_str, is_tuple_tup, is_tuple_lst, is_list_non, is_list_bl, is_list_int, is_list_str, is_list_tup, is_list_lst, List.map_cons, List.map_nil, List.length_cons, List.length_nil, List.cons_append, List.nil_append, List.replicate_succ, List.replicate_zero, List.getElem?_cons_zero, List.getElem?_cons_succ, List.set_cons_zero, List.set_cons_succ, List.append_nil, bindP, wipeT, setAll, Nat.reduceSub, Nat.reduceAdd, true_and, and_true, if_true, if_false, Bool.not_true, Bool.not_false, eq_self, ite_true, ite_false, reduceIte, ne_eq, not_false_eq_true, not_true_eq_false, false_or, or_false, true_or, or_true, Bool.false_eq_true]
    refine ⟨by rw [Str.empty_append]; omega, by rw [Str.empty_append, Str.length_append]; omega, by rw [Str.empty_append, Str.length_append, Str.length_append]; omega, ?_⟩
    rw [Str.empty_append]
    all_goals first | rfl | trivial
  | tool b =>
    have qe : ∀ h : IH, gEq (.str "tool") (.str "line") h = some (.bl false) := fun h => eq_no (k := 0) (l := 0) (by decide) (by decide) (by decide +kernel) (by decide +kernel) rfl rfl (fun z => by injection z with z; exact absurd z (by decide +kernel))
    have lw : ("tool" : Str).length = 4 := by decide +kernel
    have lb : (if b = true then ("up" : Str) else "down").length ≤ 4 := by cases b <;> decide +kernel
    have qw := fun h : IH => q_fmtS (h := h) (a := "tool") (by omega)
    have q := fun h : IH => q_fmtS (h := h) (a := if b = true then ("up" : Str) else "down") (by omega)
    simp only [itT, v_Seq, v_If, qe, q, qw, w_ok, w_bind, w_of, w_fl, w_ite, w_iteN, ex_ite, ex_some, ex_map, ex_bind, w_C, w_V, w_Bin, w_Un, w_Nil, w_Cons, w_Tup, w_Lst, w_Box, w_Of, w_And, w_Or, w_Not, w_True, w_eAnd, w_eOr, w_eNot, w_If, w_Chain, w_oN, w_oS, w_Sl, w_Call, w_CallB, w_eJoin, w_Rev, ex_str, v_nx, v_rt, v_Skip, v_Seq, v_If, v_Ret, v_Expr, v_Set, v_Tp, v_Par, v_For, v_App, v_Mut, v_Ext, v_Put, v_PutB, ex_eqT, ex_eqL, ex_lst, ex_bl, ex_int, if_dec, w_iMap, w_iR1, w_iR2, w_iR3, w_iZ, w_iZE, w_Lc, w_LRg, v_AppPop, w_eJs, w_jsN, w_jsC, q_repL, q_gEnT, q_addT, q_shr, q_and, q_revL, q_revT, q_cat, q_lnL, p_two, q_slL, q_slT, q_add, q_sub, q_mul, q_div, q_mod, q_pow, q_shl, q_lt, q_le, q_gt, q_ge, q_max2, q_min2, q_neg, q_abs, q_intI, q_intB, q_lenT, q_lenL, q_ixT, q_ixL, q_tupL, q_tupT, q_lstL, q_lstT, q_isN, q_gL, q_gT, q_gEnL, q_eq, q_ne, okMod_iff, okAll_iff, okPow_iff, okR_iff, at0, at1, at2, at3, at4, at5, is_int_non, is_int_bl, is_int_int, is_int_str, is_int_tup, is_int_lst, is_bool_non, is_bool_bl, is_bool_int, is_bool_str, is_bool_tup, is_bool_lst, is_str_non, is_str_bl, is_str_int, is_str_str, is_str_tup, is_str_lst, is_tuple_non, is_tuple_bl, is_tuple_int, is_tuple_str, is_tuple_tup, is_tuple_lst, is_list_non, is_list_bl, is_list_int, is_list_str, is_list_tup, is_list_lst, List.map_cons, List.map_nil, List.length_cons, List.length_nil, List.cons_append, List.nil_append, List.replicate_succ, List.replicate_zero, List.getElem?_cons_zero, List.getElem?_cons_succ, List.set_cons_zero, List.set_cons_succ, List.append_nil, bindP, wipeT, setAll, Nat.reduceSub, Nat.reduceAdd, true_and, and_true, if_true, if_false, Bool.not_true, Bool.not_false, eq_self, ite_true, ite_false, reduceIte, ne_eq, not_false_eq_true, not_true_eq_false, false_or, or_false, true_or, or_true, Bool.false_eq_true]
    refine ⟨by rw [Str.empty_append]; omega, by rw [Str.empty_append, Str.length_append]; omega, by rw [Str.empty_append, Str.length_append, Str.length_append]; omega, ?_⟩
    rw [Str.empty_append]
    cases b <;> rfl
  | mark z =>
    have qe : ∀ h : IH, gEq (.str "mark") (.str "line") h = some (.bl false) := fun h => eq_no (k := 0) (l := 0) (by decide) (by decide) (by decide +kernel) (by decide +kernel) rfl rfl (fun z => by injection z with z; exact absurd z (by decide +kernel))
    have lw : ("mark" : Str).length = 4 := by decide +kernel
    have lz := m.2
    have qw := fun h : IH => q_fmtS (h := h) (a := "mark") (by omega)
    have q := fun h : IH => q_fmtS (h := h) (a := z) (by omega)
    simp only [itT, v_Seq, v_If, qe, q, qw, w_ok, w_bind, w_of, w_fl, w_ite, w_iteN, ex_ite, ex_some, ex_map, ex_bind, w_C, w_V, w_Bin, w_Un, w_Nil, w_Cons, w_Tup, w_Lst, w_Box, w_Of, w_And, w_Or, w_Not, w_True, w_eAnd, w_eOr, w_eNot, w_If, w_Chain, w_oN, w_oS, w_Sl, w_Call, w_CallB, w_eJoin, w_Rev, ex_str, v_nx, v_rt, v_Skip, v_Seq, v_If, v_Ret, v_Expr, v_Set, v_Tp, v_Par, v_For, v_App, v_Mut, v_Ext, v_Put, v_PutB, ex_eqT, ex_eqL, ex_lst, ex_bl, ex_int, if_dec, w_iMap, w_iR1, w_iR2, w_iR3, w_iZ, w_iZE, w_Lc, w_LRg, v_AppPop, w_eJs, w_jsN, w_jsC, q_repL, q_gEnT, q_addT, q_shr, q_and, q_revL, q_revT, q_cat, q_lnL, p_two, q_slL, q_slT, q_add, q_sub, q_mul, q_div, q_mod, q_pow, q_shl, q_lt, q_le, q_gt, q_ge, q_max2, q_min2, q_neg, q_abs, q_intI, q_intB, q_lenT, q_lenL, q_ixT, q_ixL, q_tupL, q_tupT, q_lstL, q_lstT, q_isN, q_gL, q_gT, q_gEnL, q_eq, q_ne, okMod_iff, okAll_iff, okPow_iff, okR_iff, at0, at1, at2, at3, at4, at5, is_int_non, is_int_bl, is_int_int, is_int_str, is_int_tup, is_int_lst, is_bool_non, is_bool_bl, is_bool_int, is_bool_str, is_bool_tup, is_bool_lst, is_str_non, is_str_bl, is_str_int, is_str_str, is_str_tup, is_str_lst, is_tuple_non, is_tuple_bl, is_tuple_int, is_tuple_str, is_tuple_tup, is_tuple_lst, is_list_non, is_list_bl, is_list_int, is_list_str, is_list_tup, is_list_lst, List.map_cons, List.map_nil, List.length_cons, List.length_nil, List.cons_append, List.nil_append, List.replicate_succ, List.replicate_zero, List.getElem?_cons_zero, List.getElem?_cons_succ, List.set_cons_zero, List.set_cons_succ, List.append_nil, bindP, wipeT, setAll, Nat.reduceSub, Nat.reduceAdd, true_and, and_true, if_true, if_false, Bool.not_true, Bool.not_false, eq_self, ite_true, ite_false, reduceIte, ne_eq, not_false_eq_true, not_true_eq_false, false_or, or_false, true_or, or_true, Bool.false_eq_true]
    refine ⟨by rw [Str.empty_append]; omega, by rw [Str.empty_append, Str.length_append]; omega, by rw [Str.empty_append, Str.length_append, Str.length_append]; omega, ?_⟩
    rw [Str.empty_append]
    all_goals first | rfl | trivial
/-! show_items -/
theorem rows_len {ax : Nat} {is : List Itm} (ax3 : ax ≤ 3) (ok : ∀ i ∈ is, OkI ax i) (mk : ∀ i ∈ is, MkOk i) (hl : is.length ≤ 1000) : ((is.map itS).map (·.length)).sum + (is.map itS).length * ("\n" : Str).length ≤ 16777216 := by
  have l0 : ("\n" : Str).length = 1 := by decide +kernel
  have := sum_le (n := 300) (zs := is.map itS) fun z m => by
    obtain ⟨x, mx, rfl⟩ := List.mem_map.mp m
    exact itS_len ax3 (ok x mx) (mk x mx)
  rw [List.length_map] at *
  rw [l0]
  omega
theorem show_items_is {ax : Nat} {is : List Itm} {h : IH} (ax3 : ax ≤ 3) (ok : ∀ i ∈ is, OkI ax i) (mk : ∀ i ∈ is, MkOk i) (hl : is.length ≤ 1000) : f_show_items [.tup (itL is)] h = .ok (.str (Txt.join "\n" (is.map itS))) h := by
  have hs : (100000 : Nat) ≤ sizeLine := by decide
  refine Ok.eq ?_
  unfold f_show_items
  rw [w_runF]
  refine ⟨rfl, ?_⟩
  have el : ∀ (a0 : Option T) (h : IH), lcGo (.nm 1) sTrue f_show_items_e1 [a0, none] (is.map itT) h = .ok (is.map fun x => T.str (itS x)) h := fun a0 h =>
    lc_maps (τo := fun x => [a0, some (itT x)]) (fun _ _ => rfl) fun x mx => by
      refine Ok.eq ?_
      unfold f_show_items_e1
      have q := fun h : IH => show_item_is (h := h) ax3 (ok x mx) (mk x mx)
      simp only [w_ok, w_bind, w_of, w_fl, w_ite, w_iteN, ex_ite, ex_some, ex_map, ex_bind, w_C, w_V, w_Bin, w_Un, w_Nil, w_Cons, w_Tup, w_Lst, w_Box, w_Of, w_And, w_Or, w_Not, w_True, w_eAnd, w_eOr, w_eNot, w_If, w_Chain, w_oN, w_oS, w_Sl, w_Call, w_CallB, w_eJoin, w_Rev, ex_str, v_nx, v_rt, v_Skip, v_Seq, v_If, v_Ret, v_Expr, v_Set, v_Tp, v_Par, v_For, v_App, v_Mut, v_Ext, v_Put, v_PutB, ex_eqT, ex_eqL, ex_lst, ex_bl, ex_int, if_dec, w_iMap, w_iR1, w_iR2, w_iR3, w_iZ, w_iZE, w_Lc, w_LRg, v_AppPop, w_eJs, w_jsN, w_jsC, q_repL, q_gEnT, q_addT, q_shr, q_and, q_revL, q_revT, q_cat, q_lnL, p_two, q_slL, q_slT, q_add, q_sub, q_mul, q_div, q_mod, q_pow, q_shl, q_lt, q_le, q_gt, q_ge, q_max2, q_min2, q_neg, q_abs, q_intI, q_intB, q_lenT, q_lenL, q_ixT, q_ixL, q_tupL, q_tupT, q_lstL, q_lstT, q_isN, q_gL, q_gT, q_gEnL, q_eq, q_ne, okMod_iff, okAll_iff, okPow_iff, okR_iff, at0, at1, at2, at3, at4, at5, is_int_non, is_int_bl, is_int_int, is_int_str, is_int_tup, is_int_lst, is_bool_non, is_bool_bl, is_bool_int, is_bool_str, is_bool_tup, is_bool_lst, is_str_non, is_str_bl, is_str_int, is_str_str, is_str_tup, is_str_lst, is_tuple_non, is_tuple_bl, is_tuple_int, is_tuple_str, is_tuple_tup, is_tuple_lst, is_list_non, is_list_bl, is_list_int, is_list_str, is_list_tup, is_list_lst, List.map_cons, List.map_nil, List.length_cons, List.length_nil, List.cons_append, List.nil_append, List.replicate_succ, List.replicate_zero, List.getElem?_cons_zero, List.getElem?_cons_succ, List.set_cons_zero, List.set_cons_succ, List.append_nil, bindP, wipeT, setAll, Nat.reduceSub, Nat.reduceAdd, true_and, and_true, if_true, if_false, Bool.not_true, Bool.not_false, eq_self, ite_true, ite_false, reduceIte, ne_eq, not_false_eq_true, not_true_eq_false, false_or, or_false, true_or, or_true, Bool.false_eq_true, q]
  have rl := rows_len ax3 ok mk hl
  unfold itL
  simp only [v_Seq, v_If, w_ok, w_bind, w_of, w_fl, w_ite, w_iteN, ex_ite, ex_some, ex_map, ex_bind, w_C, w_V, w_Bin, w_Un, w_Nil, w_Cons, w_Tup, w_Lst, w_Box, w_Of, w_And, w_Or, w_Not, w_True, w_eAnd, w_eOr, w_eNot, w_If, w_Chain, w_oN, w_oS, w_Sl, w_Call, w_CallB, w_eJoin, w_Rev, ex_str, v_nx, v_rt, v_Skip, v_Seq, v_If, v_Ret, v_Expr, v_Set, v_Tp, v_Par, v_For, v_App, v_Mut, v_Ext, v_Put, v_PutB, ex_eqT, ex_eqL, ex_lst, ex_bl, ex_int, if_dec, w_iMap, w_iR1, w_iR2, w_iR3, w_iZ, w_iZE, w_Lc, w_LRg, v_AppPop, w_eJs, w_jsN, w_jsC, q_repL, q_gEnT, q_addT, q_shr, q_and, q_revL, q_revT, q_cat, q_lnL, p_two, q_slL, q_slT, q_add, q_sub, q_mul, q_div, q_mod, q_pow, q_shl, q_lt, q_le, q_gt, q_ge, q_max2, q_min2, q_neg, q_abs, q_intI, q_intB, q_lenT, q_lenL, q_ixT, q_ixL, q_tupL, q_tupT, q_lstL, q_lstT, q_isN, q_gL, q_gT, q_gEnL, q_eq, q_ne, okMod_iff, okAll_iff, okPow_iff, okR_iff, at0, at1, at2, at3, at4, at5, is_int_non, is_int_bl, is_int_int, is_int_str, is_int_tup, is_int_lst, is_bool_non, is_bool_bl, is_bool_int, is_bool_str, is_bool_tup, is_bool_lst, is_str_non, is_str_bl, is_str_int, is_str_str, is_str_tup, is_str_lst, is_tuple_non, is_tuple_bl, is_tuple_int, is_tuple_str, is_tuple_tup, is_tuple_lst, is_list_non, is_list_bl, is_list_int, is_list_str, is_list_tup, is_list_lst, List.map_cons, List.map_nil, List.length_cons, List.length_nil, List.cons_append, List.nil_append, List.replicate_succ, List.replicate_zero, List.getElem?_cons_zero, List.getElem?_cons_succ, List.set_cons_zero, List.set_cons_succ, List.append_nil, bindP, wipeT, setAll, Nat.reduceSub, Nat.reduceAdd, true_and, and_true, if_true, if_false, Bool.not_true, Bool.not_false, eq_self, ite_true, ite_false, reduceIte, ne_eq, not_false_eq_true, not_true_eq_false, false_or, or_false, true_or, or_true, Bool.false_eq_true]
  rw [el, w_ok]
  exact ⟨by rw [List.length_map]; omega, _, q_joinS strs_map rl, rfl, rfl⟩
/-! show_entry -/
theorem show_entry_is {t : T} (o : EntOk t) : ∃ z : Str, PyData.strOk z = true ∧ (∀ i, t = itT i → z = itS i) ∧ (∀ (row : List Int) (k a b : Int), t = .tup [.str "step", .tup (row.map T.int), .int k, .tup [.int a, .int b]] → z = stS row k a b) ∧ ∀ h : IH, f_show_entry [t] h = .ok (.str z) h := by
  have hs : (100000 : Nat) ≤ sizeLine := by decide
  have l0 : (" " : Str).length = 1 := by decide +kernel
  have l1 : ("step" : Str).length = 4 := by decide +kernel
  have l2 : ("step " : Str).length = 5 := by decide +kernel
  rcases o with ⟨i, rfl, ni, mi⟩ | ⟨row, k, a, b, rfl, r1, r3, br, ⟨k1, k2⟩, ⟨a1, a2⟩, b1, b2⟩
  · refine ⟨itS i, itS_ok mi, fun j e => by rw [itT_inj e], fun row k a b e => ?_, fun h => ?_⟩
    · cases i with
      | line xs s => cases ni
      | _ => exact absurd e (by intro z; injection z with z; have := congrArg List.length z; simp at this)
    · have oi : OkI 3 i := by
        cases i with
        | line xs s => cases ni
        | _ => trivial
      have si := fun h : IH => show_item_is (h := h) (by decide : (3 : Nat) ≤ 3) oi mi
      have kn : ∃ w ts, itT i = .tup (.str w :: ts) ∧ ∀ h : IH, gNe (.str w) (.str "step") h = some (.bl true) := by
        cases i with
        | line xs s => cases ni
        | _ => exact ⟨_, _, rfl, fun h => eq_no (k := 0) (l := 0) (by decide) (by decide) (by decide +kernel) (by decide +kernel) rfl rfl (fun z => by injection z with z; exact absurd z (by decide +kernel))⟩
      obtain ⟨w, ts, ei, qn⟩ := kn
      rw [ei] at si ⊢
      refine Ok.eq ?_
      unfold f_show_entry
      rw [w_runF]
      refine ⟨rfl, ?_⟩
      simp only [v_Seq, v_If, qn, si, w_ok, w_bind, w_of, w_fl, w_ite, w_iteN, ex_ite, ex_some, ex_map, ex_bind, w_C, w_V, w_Bin, w_Un, w_Nil, w_Cons, w_Tup, w_Lst, w_Box, w_Of, w_And, w_Or, w_Not, w_True, w_eAnd, w_eOr, w_eNot, w_If, w_Chain, w_oN, w_oS, w_Sl, w_Call, w_CallB, w_eJoin, w_Rev, ex_str, v_nx, v_rt, v_Skip, v_Seq, v_If, v_Ret, v_Expr, v_Set, v_Tp, v_Par, v_For, v_App, v_Mut, v_Ext, v_Put, v_PutB, ex_eqT, ex_eqL, ex_lst, ex_bl, ex_int, if_dec, w_iMap, w_iR1, w_iR2, w_iR3, w_iZ, w_iZE, w_Lc, w_LRg, v_AppPop, w_eJs, w_jsN, w_jsC, q_repL, q_gEnT, q_addT, q_shr, q_and, q_revL, q_revT, q_cat, q_lnL, p_two, q_slL, q_slT, q_add, q_sub, q_mul, q_div, q_mod, q_pow, q_shl, q_lt, q_le, q_gt, q_ge, q_max2, q_min2, q_neg, q_abs, q_intI, q_intB, q_lenT, q_lenL, q_ixT, q_ixL, q_tupL, q_tupT, q_lstL, q_lstT, q_isN, q_gL, q_gT, q_gEnL, q_eq, q_ne, okMod_iff, okAll_iff, okPow_iff, okR_iff, at0, at1, at2, at3, at4, at5, is_int_non, is_int_bl, is_int_int, is_int_str, is_int_tup, is_int_lst, is_bool_non, is_bool_bl, is_bool_int, is_bool_str, is_bool_tup, is_bool_lst, is_str_non, is_str_bl, is_str_int, is_str_str, is_str_tup, is_str_lst, is_tuple_non, is_tuple_bl, is_tuple_int, is_tuple_str, is_tuple_tup, is_tuple_lst, is_list_non, is_list_bl, is_list_int, is_list_str, is_list_tup, is_list_lst, List.map_cons, List.map_nil, List.length_cons, List.length_nil, List.cons_append, List.nil_append, List.replicate_succ, List.replicate_zero, List.getElem?_cons_zero, List.getElem?_cons_succ, List.set_cons_zero, List.set_cons_succ, List.append_nil, bindP, wipeT, setAll, Nat.reduceSub, Nat.reduceAdd, true_and, and_true, if_true, if_false, Bool.not_true, Bool.not_false, eq_self, ite_true, ite_false, reduceIte, ne_eq, not_false_eq_true, not_true_eq_false, false_or, or_false, true_or, or_true, Bool.false_eq_true]
  · refine ⟨stS row k a b, stS_ok, fun j e => ?_, fun row' k' a' b' e => ?_, fun h => ?_⟩
    · cases j with
      | line xs s => exact absurd e (by intro z; injection z with z; have := congrArg List.length z; simp at this)
      | _ => exact absurd e (by intro z; injection z with z; have := congrArg List.length z; simp at this)
    · injection e with e
      simp only [List.cons.injEq, T.tup.injEq, T.int.injEq, and_true, true_and] at e
      obtain ⟨e1, e2, e3, e4⟩ := e
      rw [int_maps_inj e1, e2, e3, e4]
    · have qn : ∀ h : IH, gNe (.str "step") (.str "step") h = some (.bl false) := fun h => q_neR (k := 0) (by decide) (by decide +kernel)
      have ha : a.natAbs < 10 ^ 40 := by omega
      have hb : b.natAbs < 10 ^ 40 := by omega
      have hk : k.natAbs < 10 ^ 40 := by omega
      have bx : ∀ x ∈ row, x.natAbs < 10 ^ 40 := fun x mx => by have := br x mx; omega
      have fr := fun h : IH => show_fraction_is (h := h) ha hb
      have q := fun h : IH => q_strI (h := h) hk
      have fl := frS_len ha hb
      have kl := dg_len hk
      have dl := dgs_len bx
      have jl := join_len (s := " ") (zs := row.map dg)
      have el : ∀ (a0 a1 : Option T) (h : IH), lcGo (.nm 2) sTrue f_show_entry_e1 [a0, a1, none] (row.map T.int) h = .ok (row.map fun x => T.str (dg x)) h := fun a0 a1 h =>
        lc_maps (τo := fun x => [a0, a1, some (.int x)]) (fun _ _ => rfl) fun x mx => by
          refine Ok.eq ?_
          unfold f_show_entry_e1
          have q := fun h : IH => q_strI (h := h) (bx x mx)
          simp only [w_ok, w_bind, w_of, w_fl, w_ite, w_iteN, ex_ite, ex_some, ex_map, ex_bind, w_C, w_V, w_Bin, w_Un, w_Nil, w_Cons, w_Tup, w_Lst, w_Box, w_Of, w_And, w_Or, w_Not, w_True, w_eAnd, w_eOr, w_eNot, w_If, w_Chain, w_oN, w_oS, w_Sl, w_Call, w_CallB, w_eJoin, w_Rev, ex_str, v_nx, v_rt, v_Skip, v_Seq, v_If, v_Ret, v_Expr, v_Set, v_Tp, v_Par, v_For, v_App, v_Mut, v_Ext, v_Put, v_PutB, ex_eqT, ex_eqL, ex_lst, ex_bl, ex_int, if_dec, w_iMap, w_iR1, w_iR2, w_iR3, w_iZ, w_iZE, w_Lc, w_LRg, v_AppPop, w_eJs, w_jsN, w_jsC, q_repL, q_gEnT, q_addT, q_shr, q_and, q_revL, q_revT, q_cat, q_lnL, p_two, q_slL, q_slT, q_add, q_sub, q_mul, q_div, q_mod, q_pow, q_shl, q_lt, q_le, q_gt, q_ge, q_max2, q_min2, q_neg, q_abs, q_intI, q_intB, q_lenT, q_lenL, q_ixT, q_ixL, q_tupL, q_tupT, q_lstL, q_lstT, q_isN, q_gL, q_gT, q_gEnL, q_eq, q_ne, okMod_iff, okAll_iff, okPow_iff, okR_iff, at0, at1, at2, at3, at4, at5, is_int_non, is_int_bl, is_int_int, is_int_str, is_int_tup, is_int_lst, is_bool_non, is_bool_bl, is_bool_int, is_bool_str, is_bool_tup, is_bool_lst, is_str_non, is_str_bl, is_str_int, is_str_str, is_str_tup, is_str_lst, is_tuple_non, is_tuple_bl, is_tuple_int, is_tuple_str, is_tuple_tup, is_tuple_lst, is_list_non, is_list_bl, is_list_int, is_list_str, is_list_tup, is_list_lst, List.map_cons, List.map_nil, List.length_cons, List.length_nil, List.cons_append, List.nil_append, List.replicate_succ, List.replicate_zero, List.getElem?_cons_zero, List.getElem?_cons_succ, List.set_cons_zero, List.set_cons_succ, List.append_nil, bindP, wipeT, setAll, Nat.reduceSub, Nat.reduceAdd, true_and, and_true, if_true, if_false, Bool.not_true, Bool.not_false, eq_self, ite_true, ite_false, reduceIte, ne_eq, not_false_eq_true, not_true_eq_false, false_or, or_false, true_or, or_true, Bool.false_eq_true, q]
      refine Ok.eq ?_
      unfold f_show_entry
      rw [w_runF]
      refine ⟨rfl, ?_⟩
      simp only [v_Seq, v_If, qn, w_ok, w_bind, w_of, w_fl, w_ite, w_iteN, ex_ite, ex_some, ex_map, ex_bind, w_C, w_V, w_Bin, w_Un, w_Nil, w_Cons, w_Tup, w_Lst, w_Box, w_Of, w_And, w_Or, w_Not, w_True, w_eAnd, w_eOr, w_eNot, w_If, w_Chain, w_oN, w_oS, w_Sl, w_Call, w_CallB, w_eJoin, w_Rev, ex_str, v_nx, v_rt, v_Skip, v_Seq, v_If, v_Ret, v_Expr, v_Set, v_Tp, v_Par, v_For, v_App, v_Mut, v_Ext, v_Put, v_PutB, ex_eqT, ex_eqL, ex_lst, ex_bl, ex_int, if_dec, w_iMap, w_iR1, w_iR2, w_iR3, w_iZ, w_iZE, w_Lc, w_LRg, v_AppPop, w_eJs, w_jsN, w_jsC, q_repL, q_gEnT, q_addT, q_shr, q_and, q_revL, q_revT, q_cat, q_lnL, p_two, q_slL, q_slT, q_add, q_sub, q_mul, q_div, q_mod, q_pow, q_shl, q_lt, q_le, q_gt, q_ge, q_max2, q_min2, q_neg, q_abs, q_intI, q_intB, q_lenT, q_lenL, q_ixT, q_ixL, q_tupL, q_tupT, q_lstL, q_lstT, q_isN, q_gL, q_gT, q_gEnL, q_eq, q_ne, okMod_iff, okAll_iff, okPow_iff, okR_iff, at0, at1, at2, at3, at4, at5, is_int_non, is_int_bl, is_int_int, is_int_str, is_int_tup, is_int_lst, is_bool_non, is_bool_bl, is_bool_int, is_bool_str, is_bool_tup, is_bool_lst, is_str_non, is_str_bl, is_str_int, is_str_str, is_str_tup, is_str_lst, is_tuple_non, is_tuple_bl, is_tuple_int, is_tuple_str, is_tuple_tup, is_tuple_lst, is_list_non, is_list_bl, is_list_int, is_list_str, is_list_tup, is_list_lst, List.map_cons, List.map_nil, List.length_cons, List.length_nil, List.cons_append, List.nil_append, List.replicate_succ, List.replicate_zero, List.getElem?_cons_zero, List.getElem?_cons_succ, List.set_cons_zero, List.set_cons_succ, List.append_nil, bindP, wipeT, setAll, Nat.reduceSub, Nat.reduceAdd, true_and, and_true, if_true, if_false, Bool.not_true, Bool.not_false, eq_self, ite_true, ite_false, reduceIte, ne_eq, not_false_eq_true, not_true_eq_false, false_or, or_false, true_or, or_true, Bool.false_eq_true]
      unfold f_show_entry_r1
      simp only [v_Seq, v_If, w_ok, w_bind, w_of, w_fl, w_ite, w_iteN, ex_ite, ex_some, ex_map, ex_bind, w_C, w_V, w_Bin, w_Un, w_Nil, w_Cons, w_Tup, w_Lst, w_Box, w_Of, w_And, w_Or, w_Not, w_True, w_eAnd, w_eOr, w_eNot, w_If, w_Chain, w_oN, w_oS, w_Sl, w_Call, w_CallB, w_eJoin, w_Rev, ex_str, v_nx, v_rt, v_Skip, v_Seq, v_If, v_Ret, v_Expr, v_Set, v_Tp, v_Par, v_For, v_App, v_Mut, v_Ext, v_Put, v_PutB, ex_eqT, ex_eqL, ex_lst, ex_bl, ex_int, if_dec, w_iMap, w_iR1, w_iR2, w_iR3, w_iZ, w_iZE, w_Lc, w_LRg, v_AppPop, w_eJs, w_jsN, w_jsC, q_repL, q_gEnT, q_addT, q_shr, q_and, q_revL, q_revT, q_cat, q_lnL, p_two, q_slL, q_slT, q_add, q_sub, q_mul, q_div, q_mod, q_pow, q_shl, q_lt, q_le, q_gt, q_ge, q_max2, q_min2, q_neg, q_abs, q_intI, q_intB, q_lenT, q_lenL, q_ixT, q_ixL, q_tupL, q_tupT, q_lstL, q_lstT, q_isN, q_gL, q_gT, q_gEnL, q_eq, q_ne, okMod_iff, okAll_iff, okPow_iff, okR_iff, at0, at1, at2, at3, at4, at5, is_int_non, is_int_bl, is_int_int, is_int_str, is_int_tup, is_int_lst, is_bool_non, is_bool_bl, is_bool_int, is_bool_str, is_bool_tup, is_bool_lst, is_str_non, is_str_bl, is_str_int, is_str_str, is_str_tup, is_str_lst, is_tuple_non, is_tuple_bl, is_tuple_int, is_tuple_str, is_tuple_tup, is_tuple_lst, is_list_non, is_list_bl, is_list_int, is_list_str, is_list_tup, is_list_lst, List.map_cons, List.map_nil, List.length_cons, List.length_nil, List.cons_append, List.nil_append, List.replicate_succ, List.replicate_zero, List.getElem?_cons_zero, List.getElem?_cons_succ, List.set_cons_zero, List.set_cons_succ, List.append_nil, bindP, wipeT, setAll, Nat.reduceSub, Nat.reduceAdd, true_and, and_true, if_true, if_false, Bool.not_true, Bool.not_false, eq_self, ite_true, ite_false, reduceIte, ne_eq, not_false_eq_true, not_true_eq_false, false_or, or_false, true_or, or_true, Bool.false_eq_true]
      rw [el, w_ok]
      simp only [fr, q, w_ok, w_bind, w_of, w_fl, w_ite, w_iteN, ex_ite, ex_some, ex_map, ex_bind, w_C, w_V, w_Bin, w_Un, w_Nil, w_Cons, w_Tup, w_Lst, w_Box, w_Of, w_And, w_Or, w_Not, w_True, w_eAnd, w_eOr, w_eNot, w_If, w_Chain, w_oN, w_oS, w_Sl, w_Call, w_CallB, w_eJoin, w_Rev, ex_str, v_nx, v_rt, v_Skip, v_Seq, v_If, v_Ret, v_Expr, v_Set, v_Tp, v_Par, v_For, v_App, v_Mut, v_Ext, v_Put, v_PutB, ex_eqT, ex_eqL, ex_lst, ex_bl, ex_int, if_dec, w_iMap, w_iR1, w_iR2, w_iR3, w_iZ, w_iZE, w_Lc, w_LRg, v_AppPop, w_eJs, w_jsN, w_jsC, q_repL, q_gEnT, q_addT, q_shr, q_and, q_revL, q_revT, q_cat, q_lnL, p_two, q_slL, q_slT, q_add, q_sub, q_mul, q_div, q_mod, q_pow, q_shl, q_lt, q_le, q_gt, q_ge, q_max2, q_min2, q_neg, q_abs, q_intI, q_intB, q_lenT, q_lenL, q_ixT, q_ixL, q_tupL, q_tupT, q_lstL, q_lstT, q_isN, q_gL, q_gT, q_gEnL, q_eq, q_ne, okMod_iff, okAll_iff, okPow_iff, okR_iff, at0, at1, at2, at3, at4, at5, is_int_non, is_int_bl, is_int_int, is_int_str, is_int_tup, is_int_lst, is_bool_non, is_bool_bl, is_bool_int, is_bool_str, is_bool_tup, is_bool_lst, is_str_non, is_str_bl, is_str_int, is_str_str, is_str_tup, is_str_lst, is_tuple_non, is_tuple_bl, is_tuple_int, is_tuple_str, is_tuple_tup, is_tuple_lst, is_list_non, is_list_bl, is_list_int, is_list_str, is_list_tup, is_list_lst, List.map_cons, List.map_nil, List.length_cons, List.length_nil, List.cons_append, List.nil_append, List.replicate_succ, List.replicate_zero, List.getElem?_cons_zero, List.getElem?_cons_succ, List.set_cons_zero, List.set_cons_succ, List.append_nil, bindP, wipeT, setAll, Nat.reduceSub, Nat.reduceAdd, true_and, and_true, if_true, if_false, Bool.not_true, Bool.not_false, eq_self, ite_true, ite_false, reduceIte, ne_eq, not_false_eq_true, not_true_eq_false, false_or, or_false, true_or, or_true, Bool.false_eq_true, List.length_map]
      refine ⟨by omega, by omega, by omega, by omega, ?_⟩
      simp only [fr, q, w_ok, w_bind, w_of, w_fl, w_ite, w_iteN, ex_ite, ex_some, ex_map, ex_bind, w_C, w_V, w_Bin, w_Un, w_Nil, w_Cons, w_Tup, w_Lst, w_Box, w_Of, w_And, w_Or, w_Not, w_True, w_eAnd, w_eOr, w_eNot, w_If, w_Chain, w_oN, w_oS, w_Sl, w_Call, w_CallB, w_eJoin, w_Rev, ex_str, v_nx, v_rt, v_Skip, v_Seq, v_If, v_Ret, v_Expr, v_Set, v_Tp, v_Par, v_For, v_App, v_Mut, v_Ext, v_Put, v_PutB, ex_eqT, ex_eqL, ex_lst, ex_bl, ex_int, if_dec, w_iMap, w_iR1, w_iR2, w_iR3, w_iZ, w_iZE, w_Lc, w_LRg, v_AppPop, w_eJs, w_jsN, w_jsC, q_repL, q_gEnT, q_addT, q_shr, q_and, q_revL, q_revT, q_cat, q_lnL, p_two, q_slL, q_slT, q_add, q_sub, q_mul, q_div, q_mod, q_pow, q_shl, q_lt, q_le, q_gt, q_ge, q_max2, q_min2, q_neg, q_abs, q_intI, q_intB, q_lenT, q_lenL, q_ixT, q_ixL, q_tupL, q_tupT, q_lstL, q_lstT, q_isN, q_gL, q_gT, q_gEnL, q_eq, q_ne, okMod_iff, okAll_iff, okPow_iff, okR_iff, at0, at1, at2, at3, at4, at5, is_int_non, is_int_bl, is_int_int, is_int_str, is_int_tup, is_int_lst, is_bool_non, is_bool_bl, is_bool_int, is_bool_str, is_bool_tup, is_bool_lst, is_str_non, is_str_bl, is_str_int, is_str_str, is_str_tup, is_str_lst, is_tuple_non, is_tuple_bl, is_tuple_int, is_tuple_str, is_tuple_tup, is_tuple_lst, is_list_non, is_list_bl, is_list_int, is_list_str, is_list_tup, is_list_lst, List.map_cons, List.map_nil, List.length_cons, List.length_nil, List.cons_append, List.nil_append, List.replicate_succ, List.replicate_zero, List.getElem?_cons_zero, List.getElem?_cons_succ, List.set_cons_zero, List.set_cons_succ, List.append_nil, bindP, wipeT, setAll, Nat.reduceSub, Nat.reduceAdd, true_and, and_true, if_true, if_false, Bool.not_true, Bool.not_false, eq_self, ite_true, ite_false, reduceIte, ne_eq, not_false_eq_true, not_true_eq_false, false_or, or_false, true_or, or_true, Bool.false_eq_true, List.length_map, List.length_append]
      refine ⟨by omega, ?_⟩
      refine ⟨_, q_joinS (zs := [("step" : Str)] ++ (row.map dg ++ [dg k, frS a b])) (strs_app (ts := [T.str "step"]) rfl (strs_app strs_map rfl)) ?_, ?_⟩
      · simp only [List.map_append, List.map_cons, List.map_nil, List.sum_append, List.sum_cons, List.sum_nil, List.length_append, List.length_cons, List.length_nil, l0, Nat.mul_one, List.length_map] at dl ⊢
        omega
      · rw [stS_join (by intro z; rw [z] at r1; exact absurd r1 (by decide))]
        all_goals first | rfl | trivial | exact ⟨rfl, rfl⟩
/-! _law_entry_text -/
theorem law_entry_text_is {t : T} (o : EntOk t) : ∃ z : Str, PyData.strOk z = true ∧ (∀ i, t = itT i → z = itS i) ∧ (∀ (row : List Int) (k a b : Int), t = .tup [.str "step", .tup (row.map T.int), .int k, .tup [.int a, .int b]] → z = stS row k a b) ∧ ∀ h : IH, f__law_entry_text [t] h = .ok (.str z) h := by
  have hs : (100000 : Nat) ≤ sizeLine := by decide
  have l0 : (" " : Str).length = 1 := by decide +kernel
  have l1 : ("step" : Str).length = 4 := by decide +kernel
  have l2 : ("step " : Str).length = 5 := by decide +kernel
  rcases o with ⟨i, rfl, ni, mi⟩ | ⟨row, k, a, b, rfl, r1, r3, br, ⟨k1, k2⟩, ⟨a1, a2⟩, b1, b2⟩
  · refine ⟨itS i, itS_ok mi, fun j e => by rw [itT_inj e], fun row k a b e => ?_, fun h => ?_⟩
    · cases i with
      | line xs s => cases ni
      | _ => exact absurd e (by intro z; injection z with z; have := congrArg List.length z; simp at this)
    · have oi : OkI 3 i := by
        cases i with
        | line xs s => cases ni
        | _ => trivial
      have si := fun h : IH => item_text_is (h := h) (by decide : (3 : Nat) ≤ 3) oi mi
      have kn : ∃ w ts, itT i = .tup (.str w :: ts) ∧ ∀ h : IH, gNe (.str w) (.str "step") h = some (.bl true) := by
        cases i with
        | line xs s => cases ni
        | _ => exact ⟨_, _, rfl, fun h => eq_no (k := 0) (l := 0) (by decide) (by decide) (by decide +kernel) (by decide +kernel) rfl rfl (fun z => by injection z with z; exact absurd z (by decide +kernel))⟩
      obtain ⟨w, ts, ei, qn⟩ := kn
      rw [ei] at si ⊢
      refine Ok.eq ?_
      unfold f__law_entry_text
      rw [w_runF]
      refine ⟨rfl, ?_⟩
      simp only [v_Seq, v_If, qn, si, w_ok, w_bind, w_of, w_fl, w_ite, w_iteN, ex_ite, ex_some, ex_map, ex_bind, w_C, w_V, w_Bin, w_Un, w_Nil, w_Cons, w_Tup, w_Lst, w_Box, w_Of, w_And, w_Or, w_Not, w_True, w_eAnd, w_eOr, w_eNot, w_If, w_Chain, w_oN, w_oS, w_Sl, w_Call, w_CallB, w_eJoin, w_Rev, ex_str, v_nx, v_rt, v_Skip, v_Seq, v_If, v_Ret, v_Expr, v_Set, v_Tp, v_Par, v_For, v_App, v_Mut, v_Ext, v_Put, v_PutB, ex_eqT, ex_eqL, ex_lst, ex_bl, ex_int, if_dec, w_iMap, w_iR1, w_iR2, w_iR3, w_iZ, w_iZE, w_Lc, w_LRg, v_AppPop, w_eJs, w_jsN, w_jsC, q_repL, q_gEnT, q_addT, q_shr, q_and, q_revL, q_revT, q_cat, q_lnL, p_two, q_slL, q_slT, q_add, q_sub, q_mul, q_div, q_mod, q_pow, q_shl, q_lt, q_le, q_gt, q_ge, q_max2, q_min2, q_neg, q_abs, q_intI, q_intB, q_lenT, q_lenL, q_ixT, q_ixL, q_tupL, q_tupT, q_lstL, q_lstT, q_isN, q_gL, q_gT, q_gEnL, q_eq, q_ne, okMod_iff, okAll_iff, okPow_iff, okR_iff, at0, at1, at2, at3, at4, at5, is_int_non, is_int_bl, is_int_int, is_int_str, is_int_tup, is_int_lst, is_bool_non, is_bool_bl, is_bool_int, is_bool_str, is_bool_tup, is_bool_lst, is_str_non, is_str_bl, is_str_int, is_str_str, is_str_tup, is_str_lst, is_tuple_non, is_tuple_bl, is_tuple_int, is_tuple_str, is_tuple_tup, is_tuple_lst, is_list_non, is_list_bl, is_list_int, is_list_str, is_list_tup, is_list_lst, List.map_cons, List.map_nil, List.length_cons, List.length_nil, List.cons_append, List.nil_append, List.replicate_succ, List.replicate_zero, List.getElem?_cons_zero, List.getElem?_cons_succ, List.set_cons_zero, List.set_cons_succ, List.append_nil, bindP, wipeT, setAll, Nat.reduceSub, Nat.reduceAdd, true_and, and_true, if_true, if_false, Bool.not_true, Bool.not_false, eq_self, ite_true, ite_false, reduceIte, ne_eq, not_false_eq_true, not_true_eq_false, false_or, or_false, true_or, or_true, Bool.false_eq_true]
  · refine ⟨stS row k a b, stS_ok, fun j e => ?_, fun row' k' a' b' e => ?_, fun h => ?_⟩
    · cases j with
      | line xs s => exact absurd e (by intro z; injection z with z; have := congrArg List.length z; simp at this)
      | _ => exact absurd e (by intro z; injection z with z; have := congrArg List.length z; simp at this)
    · injection e with e
      simp only [List.cons.injEq, T.tup.injEq, T.int.injEq, and_true, true_and] at e
      obtain ⟨e1, e2, e3, e4⟩ := e
      rw [int_maps_inj e1, e2, e3, e4]
    · have qn : ∀ h : IH, gNe (.str "step") (.str "step") h = some (.bl false) := fun h => q_neR (k := 0) (by decide) (by decide +kernel)
      have ha : a.natAbs < 10 ^ 40 := by omega
      have hb : b.natAbs < 10 ^ 40 := by omega
      have hk : k.natAbs < 10 ^ 40 := by omega
      have bx : ∀ x ∈ row, x.natAbs < 10 ^ 40 := fun x mx => by have := br x mx; omega
      have fr := fun h : IH => fraction_text_is (h := h) ha hb
      have q := fun h : IH => q_strI (h := h) hk
      have fl := frS_len ha hb
      have kl := dg_len hk
      have dl := dgs_len bx
      have jl := join_len (s := " ") (zs := row.map dg)
      have el : ∀ (a0 a1 : Option T) (h : IH), lcGo (.nm 2) sTrue f__law_entry_text_e1 [a0, a1, none] (row.map T.int) h = .ok (row.map fun x => T.str (dg x)) h := fun a0 a1 h =>
        lc_maps (τo := fun x => [a0, a1, some (.int x)]) (fun _ _ => rfl) fun x mx => by
          refine Ok.eq ?_
          unfold f__law_entry_text_e1
          have q := fun h : IH => q_strI (h := h) (bx x mx)
          simp only [w_ok, w_bind, w_of, w_fl, w_ite, w_iteN, ex_ite, ex_some, ex_map, ex_bind, w_C, w_V, w_Bin, w_Un, w_Nil, w_Cons, w_Tup, w_Lst, w_Box, w_Of, w_And, w_Or, w_Not, w_True, w_eAnd, w_eOr, w_eNot, w_If, w_Chain, w_oN, w_oS, w_Sl, w_Call, w_CallB, w_eJoin, w_Rev, ex_str, v_nx, v_rt, v_Skip, v_Seq, v_If, v_Ret, v_Expr, v_Set, v_Tp, v_Par, v_For, v_App, v_Mut, v_Ext, v_Put, v_PutB, ex_eqT, ex_eqL, ex_lst, ex_bl, ex_int, if_dec, w_iMap, w_iR1, w_iR2, w_iR3, w_iZ, w_iZE, w_Lc, w_LRg, v_AppPop, w_eJs, w_jsN, w_jsC, q_repL, q_gEnT, q_addT, q_shr, q_and, q_revL, q_revT, q_cat, q_lnL, p_two, q_slL, q_slT, q_add, q_sub, q_mul, q_div, q_mod, q_pow, q_shl, q_lt, q_le, q_gt, q_ge, q_max2, q_min2, q_neg, q_abs, q_intI, q_intB, q_lenT, q_lenL, q_ixT, q_ixL, q_tupL, q_tupT, q_lstL, q_lstT, q_isN, q_gL, q_gT, q_gEnL, q_eq, q_ne, okMod_iff, okAll_iff, okPow_iff, okR_iff, at0, at1, at2, at3, at4, at5, is_int_non, is_int_bl, is_int_int, is_int_str, is_int_tup, is_int_lst, is_bool_non, is_bool_bl, is_bool_int, is_bool_str, is_bool_tup, is_bool_lst, is_str_non, is_str_bl, is_str_int, is_str_str, is_str_tup, is_str_lst, is_tuple_non, is_tuple_bl, is_tuple_int, is_tuple_str, is_tuple_tup, is_tuple_lst, is_list_non, is_list_bl, is_list_int, is_list_str, is_list_tup, is_list_lst, List.map_cons, List.map_nil, List.length_cons, List.length_nil, List.cons_append, List.nil_append, List.replicate_succ, List.replicate_zero, List.getElem?_cons_zero, List.getElem?_cons_succ, List.set_cons_zero, List.set_cons_succ, List.append_nil, bindP, wipeT, setAll, Nat.reduceSub, Nat.reduceAdd, true_and, and_true, if_true, if_false, Bool.not_true, Bool.not_false, eq_self, ite_true, ite_false, reduceIte, ne_eq, not_false_eq_true, not_true_eq_false, false_or, or_false, true_or, or_true, Bool.false_eq_true, q]
      refine Ok.eq ?_
      unfold f__law_entry_text
      rw [w_runF]
      refine ⟨rfl, ?_⟩
      simp only [v_Seq, v_If, qn, w_ok, w_bind, w_of, w_fl, w_ite, w_iteN, ex_ite, ex_some, ex_map, ex_bind, w_C, w_V, w_Bin, w_Un, w_Nil, w_Cons, w_Tup, w_Lst, w_Box, w_Of, w_And, w_Or, w_Not, w_True, w_eAnd, w_eOr, w_eNot, w_If, w_Chain, w_oN, w_oS, w_Sl, w_Call, w_CallB, w_eJoin, w_Rev, ex_str, v_nx, v_rt, v_Skip, v_Seq, v_If, v_Ret, v_Expr, v_Set, v_Tp, v_Par, v_For, v_App, v_Mut, v_Ext, v_Put, v_PutB, ex_eqT, ex_eqL, ex_lst, ex_bl, ex_int, if_dec, w_iMap, w_iR1, w_iR2, w_iR3, w_iZ, w_iZE, w_Lc, w_LRg, v_AppPop, w_eJs, w_jsN, w_jsC, q_repL, q_gEnT, q_addT, q_shr, q_and, q_revL, q_revT, q_cat, q_lnL, p_two, q_slL, q_slT, q_add, q_sub, q_mul, q_div, q_mod, q_pow, q_shl, q_lt, q_le, q_gt, q_ge, q_max2, q_min2, q_neg, q_abs, q_intI, q_intB, q_lenT, q_lenL, q_ixT, q_ixL, q_tupL, q_tupT, q_lstL, q_lstT, q_isN, q_gL, q_gT, q_gEnL, q_eq, q_ne, okMod_iff, okAll_iff, okPow_iff, okR_iff, at0, at1, at2, at3, at4, at5, is_int_non, is_int_bl, is_int_int, is_int_str, is_int_tup, is_int_lst, is_bool_non, is_bool_bl, is_bool_int, is_bool_str, is_bool_tup, is_bool_lst, is_str_non, is_str_bl, is_str_int, is_str_str, is_str_tup, is_str_lst, is_tuple_non, is_tuple_bl, is_tuple_int, is_tuple_str, is_tuple_tup, is_tuple_lst, is_list_non, is_list_bl, is_list_int, is_list_str, is_list_tup, is_list_lst, List.map_cons, List.map_nil, List.length_cons, List.length_nil, List.cons_append, List.nil_append, List.replicate_succ, List.replicate_zero, List.getElem?_cons_zero, List.getElem?_cons_succ, List.set_cons_zero, List.set_cons_succ, List.append_nil, bindP, wipeT, setAll, Nat.reduceSub, Nat.reduceAdd, true_and, and_true, if_true, if_false, Bool.not_true, Bool.not_false, eq_self, ite_true, ite_false, reduceIte, ne_eq, not_false_eq_true, not_true_eq_false, false_or, or_false, true_or, or_true, Bool.false_eq_true]
      unfold f__law_entry_text_r1
      simp only [v_Seq, v_If, w_ok, w_bind, w_of, w_fl, w_ite, w_iteN, ex_ite, ex_some, ex_map, ex_bind, w_C, w_V, w_Bin, w_Un, w_Nil, w_Cons, w_Tup, w_Lst, w_Box, w_Of, w_And, w_Or, w_Not, w_True, w_eAnd, w_eOr, w_eNot, w_If, w_Chain, w_oN, w_oS, w_Sl, w_Call, w_CallB, w_eJoin, w_Rev, ex_str, v_nx, v_rt, v_Skip, v_Seq, v_If, v_Ret, v_Expr, v_Set, v_Tp, v_Par, v_For, v_App, v_Mut, v_Ext, v_Put, v_PutB, ex_eqT, ex_eqL, ex_lst, ex_bl, ex_int, if_dec, w_iMap, w_iR1, w_iR2, w_iR3, w_iZ, w_iZE, w_Lc, w_LRg, v_AppPop, w_eJs, w_jsN, w_jsC, q_repL, q_gEnT, q_addT, q_shr, q_and, q_revL, q_revT, q_cat, q_lnL, p_two, q_slL, q_slT, q_add, q_sub, q_mul, q_div, q_mod, q_pow, q_shl, q_lt, q_le, q_gt, q_ge, q_max2, q_min2, q_neg, q_abs, q_intI, q_intB, q_lenT, q_lenL, q_ixT, q_ixL, q_tupL, q_tupT, q_lstL, q_lstT, q_isN, q_gL, q_gT, q_gEnL, q_eq, q_ne, okMod_iff, okAll_iff, okPow_iff, okR_iff, at0, at1, at2, at3, at4, at5, is_int_non, is_int_bl, is_int_int, is_int_str, is_int_tup, is_int_lst, is_bool_non, is_bool_bl, is_bool_int, is_bool_str, is_bool_tup, is_bool_lst, is_str_non, is_str_bl, is_str_int, is_str_str, is_str_tup, is_str_lst, is_tuple_non, is_tuple_bl, is_tuple_int, is_tuple_str, is_tuple_tup, is_tuple_lst, is_list_non, is_list_bl, is_list_int, is_list_str, is_list_tup, is_list_lst, List.map_cons, List.map_nil, List.length_cons, List.length_nil, List.cons_append, List.nil_append, List.replicate_succ, List.replicate_zero, List.getElem?_cons_zero, List.getElem?_cons_succ, List.set_cons_zero, List.set_cons_succ, List.append_nil, bindP, wipeT, setAll, Nat.reduceSub, Nat.reduceAdd, true_and, and_true, if_true, if_false, Bool.not_true, Bool.not_false, eq_self, ite_true, ite_false, reduceIte, ne_eq, not_false_eq_true, not_true_eq_false, false_or, or_false, true_or, or_true, Bool.false_eq_true]
      rw [el, w_ok]
      refine ⟨by rw [List.length_map]; omega, _, q_joinS strs_map (by omega), ?_⟩
      simp only [fr, q, w_ok, w_bind, w_of, w_fl, w_ite, w_iteN, ex_ite, ex_some, ex_map, ex_bind, w_C, w_V, w_Bin, w_Un, w_Nil, w_Cons, w_Tup, w_Lst, w_Box, w_Of, w_And, w_Or, w_Not, w_True, w_eAnd, w_eOr, w_eNot, w_If, w_Chain, w_oN, w_oS, w_Sl, w_Call, w_CallB, w_eJoin, w_Rev, ex_str, v_nx, v_rt, v_Skip, v_Seq, v_If, v_Ret, v_Expr, v_Set, v_Tp, v_Par, v_For, v_App, v_Mut, v_Ext, v_Put, v_PutB, ex_eqT, ex_eqL, ex_lst, ex_bl, ex_int, if_dec, w_iMap, w_iR1, w_iR2, w_iR3, w_iZ, w_iZE, w_Lc, w_LRg, v_AppPop, w_eJs, w_jsN, w_jsC, q_repL, q_gEnT, q_addT, q_shr, q_and, q_revL, q_revT, q_cat, q_lnL, p_two, q_slL, q_slT, q_add, q_sub, q_mul, q_div, q_mod, q_pow, q_shl, q_lt, q_le, q_gt, q_ge, q_max2, q_min2, q_neg, q_abs, q_intI, q_intB, q_lenT, q_lenL, q_ixT, q_ixL, q_tupL, q_tupT, q_lstL, q_lstT, q_isN, q_gL, q_gT, q_gEnL, q_eq, q_ne, okMod_iff, okAll_iff, okPow_iff, okR_iff, at0, at1, at2, at3, at4, at5, is_int_non, is_int_bl, is_int_int, is_int_str, is_int_tup, is_int_lst, is_bool_non, is_bool_bl, is_bool_int, is_bool_str, is_bool_tup, is_bool_lst, is_str_non, is_str_bl, is_str_int, is_str_str, is_str_tup, is_str_lst, is_tuple_non, is_tuple_bl, is_tuple_int, is_tuple_str, is_tuple_tup, is_tuple_lst, is_list_non, is_list_bl, is_list_int, is_list_str, is_list_tup, is_list_lst, List.map_cons, List.map_nil, List.length_cons, List.length_nil, List.cons_append, List.nil_append, List.replicate_succ, List.replicate_zero, List.getElem?_cons_zero, List.getElem?_cons_succ, List.set_cons_zero, List.set_cons_succ, List.append_nil, bindP, wipeT, setAll, Nat.reduceSub, Nat.reduceAdd, true_and, and_true, if_true, if_false, Bool.not_true, Bool.not_false, eq_self, ite_true, ite_false, reduceIte, ne_eq, not_false_eq_true, not_true_eq_false, false_or, or_false, true_or, or_true, Bool.false_eq_true]
      refine ⟨_, q_addS (by omega), _, q_addS (by rw [Str.length_append]; omega), _, q_addS (by rw [Str.length_append, Str.length_append]; omega), _, q_addS (by rw [Str.length_append, Str.length_append, Str.length_append]; omega), _, q_addS (by rw [Str.length_append, Str.length_append, Str.length_append, Str.length_append]; omega), ?_⟩
      all_goals first | rfl | trivial | exact ⟨rfl, rfl⟩
end Lw
namespace Lw
open PySem PySem.Spec PyProof.Rows L2 GB
--rests
theorem all2_items {ax : Nat} {ts ys : List T} (h : All2 (fun _ y => ∃ i, y = itT i ∧ OkI ax i ∧ MkOk i) ts ys) : ∃ is : List Itm, ys = itL is ∧ (∀ i ∈ is, OkI ax i) ∧ (∀ i ∈ is, MkOk i) ∧ is.length = ts.length := by
  induction h with
  | nil => exact ⟨[], rfl, (fun i m => by cases m), (fun i m => by cases m), rfl⟩
  | cons q _ ih =>
    obtain ⟨i, rfl, o, m⟩ := q
    obtain ⟨is, rfl, h1, h2, h3⟩ := ih
    refine ⟨i :: is, rfl, fun j mj => ?_, fun j mj => ?_, by simp [h3]⟩
    · rcases List.mem_cons.mp mj with rfl | mj
      · exact o
      · exact h1 j mj
    · rcases List.mem_cons.mp mj with rfl | mj
      · exact m
      · exact h2 j mj
theorem law_body {ns : List Int} {k : Int} (hl : ns.length ≤ 63) (k0 : 0 ≤ k) (k1 : k ≤ 100) {y2 y3 y4 y5 y6 y7 y8 y9 y10 : Option T} {h : IH} (hf : flatH h = true) {M : T → IH → Prop} :
    OkS (f_law_b2 [some (.lst (ns.map T.int)), some (.int k), y2, y3, y4, y5, y6, y7, y8, y9, y10] h) (fun τ h' => flatH h' = true ∧ ∃ y1 y2 y3 y4 y5 y6 y7 y8 y9 y10, τ = [some (.lst (ns.map T.int)), y1, y2, y3, y4, y5, y6, y7, y8, y9, y10]) M := by
  have hs : (100000 : Nat) ≤ sizeLine := by decide
  unfold f_law_b2
  simp only [w_ok, w_bind, w_of, w_fl, w_ite, w_iteN, ex_ite, ex_some, ex_map, ex_bind, w_C, w_V, w_Bin, w_Un, w_Nil, w_Cons, w_Tup, w_Lst, w_Box, w_Of, w_And, w_Or, w_Not, w_True, w_eAnd, w_eOr, w_eNot, w_If, w_Chain, w_oN, w_oS, w_Sl, w_Call, w_CallB, w_eJoin, w_Rev, ex_str, v_nx, v_rt, v_Skip, v_Seq, v_If, v_Ret, v_Expr, v_Set, v_Tp, v_Par, v_For, v_App, v_Mut, v_Ext, v_Put, v_PutB, ex_eqT, ex_eqL, ex_lst, ex_bl, ex_int, if_dec, w_iMap, w_iR1, w_iR2, w_iR3, w_iZ, w_iZE, w_Lc, w_LRg, v_AppPop, w_eJs, w_jsN, w_jsC, q_repL, q_gEnT, q_addT, q_shr, q_and, q_revL, q_revT, q_cat, q_lnL, p_two, q_slL, q_slT, q_add, q_sub, q_mul, q_div, q_mod, q_pow, q_shl, q_lt, q_le, q_gt, q_ge, q_max2, q_min2, q_neg, q_abs, q_intI, q_intB, q_lenT, q_lenL, q_ixT, q_ixL, q_tupL, q_tupT, q_lstL, q_lstT, q_isN, q_gL, q_gT, q_gEnL, q_eq, q_ne, okMod_iff, okAll_iff, okPow_iff, okR_iff, at0, at1, at2, at3, at4, at5, is_int_non, is_int_bl, is_int_int, is_int_str, is_int_tup, is_int_lst, is_bool_non, is_bool_bl, is_bool_int, is_bool_str, is_bool_tup, is_bool_lst, is_str_non, is_str_bl, is_str_int, is_str_str, is_str_tup, is_str_lst, is_tuple_non, is_tuple_bl, is_tuple_int, is_tuple_str, is_tuple_tup, is_tuple_lst, is_list_non, is_list_bl, is_list_int, is_list_str, is_list_tup, is_list_lst, List.map_cons, List.map_nil, List.length_cons, List.length_nil, List.cons_append, List.nil_append, List.replicate_succ, List.replicate_zero, List.getElem?_cons_zero, List.getElem?_cons_succ, List.set_cons_zero, List.set_cons_succ, List.append_nil, bindP, wipeT, setAll, Nat.reduceSub, Nat.reduceAdd, true_and, and_true, if_true, if_false, Bool.not_true, Bool.not_false, eq_self, ite_true, ite_false, reduceIte, ne_eq, not_false_eq_true, not_true_eq_false, false_or, or_false, true_or, or_true, Bool.false_eq_true]
  refine bag_spec hf (by omega) k0 k1 fun n h1 hb1 => ?_
  try simp only [w_ok, w_bind, w_of, w_fl, w_ite, w_iteN, ex_ite, ex_some, ex_map, ex_bind, w_C, w_V, w_Bin, w_Un, w_Nil, w_Cons, w_Tup, w_Lst, w_Box, w_Of, w_And, w_Or, w_Not, w_True, w_eAnd, w_eOr, w_eNot, w_If, w_Chain, w_oN, w_oS, w_Sl, w_Call, w_CallB, w_eJoin, w_Rev, ex_str, v_nx, v_rt, v_Skip, v_Seq, v_If, v_Ret, v_Expr, v_Set, v_Tp, v_Par, v_For, v_App, v_Mut, v_Ext, v_Put, v_PutB, ex_eqT, ex_eqL, ex_lst, ex_bl, ex_int, if_dec, w_iMap, w_iR1, w_iR2, w_iR3, w_iZ, w_iZE, w_Lc, w_LRg, v_AppPop, w_eJs, w_jsN, w_jsC, q_repL, q_gEnT, q_addT, q_shr, q_and, q_revL, q_revT, q_cat, q_lnL, p_two, q_slL, q_slT, q_add, q_sub, q_mul, q_div, q_mod, q_pow, q_shl, q_lt, q_le, q_gt, q_ge, q_max2, q_min2, q_neg, q_abs, q_intI, q_intB, q_lenT, q_lenL, q_ixT, q_ixL, q_tupL, q_tupT, q_lstL, q_lstT, q_isN, q_gL, q_gT, q_gEnL, q_eq, q_ne, okMod_iff, okAll_iff, okPow_iff, okR_iff, at0, at1, at2, at3, at4, at5, is_int_non, is_int_bl, is_int_int, is_int_str, is_int_tup, is_int_lst, is_bool_non, is_bool_bl, is_bool_int, is_bool_str, is_bool_tup, is_bool_lst, is_str_non, is_str_bl, is_str_int, is_str_str, is_str_tup, is_str_lst, is_tuple_non, is_tuple_bl, is_tuple_int, is_tuple_str, is_tuple_tup, is_tuple_lst, is_list_non, is_list_bl, is_list_int, is_list_str, is_list_tup, is_list_lst, List.map_cons, List.map_nil, List.length_cons, List.length_nil, List.cons_append, List.nil_append, List.replicate_succ, List.replicate_zero, List.getElem?_cons_zero, List.getElem?_cons_succ, List.set_cons_zero, List.set_cons_succ, List.append_nil, bindP, wipeT, setAll, Nat.reduceSub, Nat.reduceAdd, true_and, and_true, if_true, if_false, Bool.not_true, Bool.not_false, eq_self, ite_true, ite_false, reduceIte, ne_eq, not_false_eq_true, not_true_eq_false, false_or, or_false, true_or, or_true, Bool.false_eq_true]
  unfold f_law_r7
  simp only [w_ok, w_bind, w_of, w_fl, w_ite, w_iteN, ex_ite, ex_some, ex_map, ex_bind, w_C, w_V, w_Bin, w_Un, w_Nil, w_Cons, w_Tup, w_Lst, w_Box, w_Of, w_And, w_Or, w_Not, w_True, w_eAnd, w_eOr, w_eNot, w_If, w_Chain, w_oN, w_oS, w_Sl, w_Call, w_CallB, w_eJoin, w_Rev, ex_str, v_nx, v_rt, v_Skip, v_Seq, v_If, v_Ret, v_Expr, v_Set, v_Tp, v_Par, v_For, v_App, v_Mut, v_Ext, v_Put, v_PutB, ex_eqT, ex_eqL, ex_lst, ex_bl, ex_int, if_dec, w_iMap, w_iR1, w_iR2, w_iR3, w_iZ, w_iZE, w_Lc, w_LRg, v_AppPop, w_eJs, w_jsN, w_jsC, q_repL, q_gEnT, q_addT, q_shr, q_and, q_revL, q_revT, q_cat, q_lnL, p_two, q_slL, q_slT, q_add, q_sub, q_mul, q_div, q_mod, q_pow, q_shl, q_lt, q_le, q_gt, q_ge, q_max2, q_min2, q_neg, q_abs, q_intI, q_intB, q_lenT, q_lenL, q_ixT, q_ixL, q_tupL, q_tupT, q_lstL, q_lstT, q_isN, q_gL, q_gT, q_gEnL, q_eq, q_ne, okMod_iff, okAll_iff, okPow_iff, okR_iff, at0, at1, at2, at3, at4, at5, is_int_non, is_int_bl, is_int_int, is_int_str, is_int_tup, is_int_lst, is_bool_non, is_bool_bl, is_bool_int, is_bool_str, is_bool_tup, is_bool_lst, is_str_non, is_str_bl, is_str_int, is_str_str, is_str_tup, is_str_lst, is_tuple_non, is_tuple_bl, is_tuple_int, is_tuple_str, is_tuple_tup, is_tuple_lst, is_list_non, is_list_bl, is_list_int, is_list_str, is_list_tup, is_list_lst, List.map_cons, List.map_nil, List.length_cons, List.length_nil, List.cons_append, List.nil_append, List.replicate_succ, List.replicate_zero, List.getElem?_cons_zero, List.getElem?_cons_succ, List.set_cons_zero, List.set_cons_succ, List.append_nil, bindP, wipeT, setAll, Nat.reduceSub, Nat.reduceAdd, true_and, and_true, if_true, if_false, Bool.not_true, Bool.not_false, eq_self, ite_true, ite_false, reduceIte, ne_eq, not_false_eq_true, not_true_eq_false, false_or, or_false, true_or, or_true, Bool.false_eq_true]
  refine take_spec hb1 (by decide) (by decide) fun axd h2 hb2 x0 x1 => ?_
  simp only [w_ok, w_bind, w_of, w_fl, w_ite, w_iteN, ex_ite, ex_some, ex_map, ex_bind, w_C, w_V, w_Bin, w_Un, w_Nil, w_Cons, w_Tup, w_Lst, w_Box, w_Of, w_And, w_Or, w_Not, w_True, w_eAnd, w_eOr, w_eNot, w_If, w_Chain, w_oN, w_oS, w_Sl, w_Call, w_CallB, w_eJoin, w_Rev, ex_str, v_nx, v_rt, v_Skip, v_Seq, v_If, v_Ret, v_Expr, v_Set, v_Tp, v_Par, v_For, v_App, v_Mut, v_Ext, v_Put, v_PutB, ex_eqT, ex_eqL, ex_lst, ex_bl, ex_int, if_dec, w_iMap, w_iR1, w_iR2, w_iR3, w_iZ, w_iZE, w_Lc, w_LRg, v_AppPop, w_eJs, w_jsN, w_jsC, q_repL, q_gEnT, q_addT, q_shr, q_and, q_revL, q_revT, q_cat, q_lnL, p_two, q_slL, q_slT, q_add, q_sub, q_mul, q_div, q_mod, q_pow, q_shl, q_lt, q_le, q_gt, q_ge, q_max2, q_min2, q_neg, q_abs, q_intI, q_intB, q_lenT, q_lenL, q_ixT, q_ixL, q_tupL, q_tupT, q_lstL, q_lstT, q_isN, q_gL, q_gT, q_gEnL, q_eq, q_ne, okMod_iff, okAll_iff, okPow_iff, okR_iff, at0, at1, at2, at3, at4, at5, is_int_non, is_int_bl, is_int_int, is_int_str, is_int_tup, is_int_lst, is_bool_non, is_bool_bl, is_bool_int, is_bool_str, is_bool_tup, is_bool_lst, is_str_non, is_str_bl, is_str_int, is_str_str, is_str_tup, is_str_lst, is_tuple_non, is_tuple_bl, is_tuple_int, is_tuple_str, is_tuple_tup, is_tuple_lst, is_list_non, is_list_bl, is_list_int, is_list_str, is_list_tup, is_list_lst, List.map_cons, List.map_nil, List.length_cons, List.length_nil, List.cons_append, List.nil_append, List.replicate_succ, List.replicate_zero, List.getElem?_cons_zero, List.getElem?_cons_succ, List.set_cons_zero, List.set_cons_succ, List.append_nil, bindP, wipeT, setAll, Nat.reduceSub, Nat.reduceAdd, true_and, and_true, if_true, if_false, Bool.not_true, Bool.not_false, eq_self, ite_true, ite_false, reduceIte, ne_eq, not_false_eq_true, not_true_eq_false, false_or, or_false, true_or, or_true, Bool.false_eq_true]
  obtain ⟨ax, eax⟩ : ∃ ax : Nat, 2 + axd = (ax : Int) := ⟨(2 + axd).toNat, by omega⟩
  rw [eax]
  have ax2 : 2 ≤ ax := by omega
  have ax3 : ax ≤ 3 := by omega
  unfold f_law_r6
  simp only [w_ok, w_bind, w_of, w_fl, w_ite, w_iteN, ex_ite, ex_some, ex_map, ex_bind, w_C, w_V, w_Bin, w_Un, w_Nil, w_Cons, w_Tup, w_Lst, w_Box, w_Of, w_And, w_Or, w_Not, w_True, w_eAnd, w_eOr, w_eNot, w_If, w_Chain, w_oN, w_oS, w_Sl, w_Call, w_CallB, w_eJoin, w_Rev, ex_str, v_nx, v_rt, v_Skip, v_Seq, v_If, v_Ret, v_Expr, v_Set, v_Tp, v_Par, v_For, v_App, v_Mut, v_Ext, v_Put, v_PutB, ex_eqT, ex_eqL, ex_lst, ex_bl, ex_int, if_dec, w_iMap, w_iR1, w_iR2, w_iR3, w_iZ, w_iZE, w_Lc, w_LRg, v_AppPop, w_eJs, w_jsN, w_jsC, q_repL, q_gEnT, q_addT, q_shr, q_and, q_revL, q_revT, q_cat, q_lnL, p_two, q_slL, q_slT, q_add, q_sub, q_mul, q_div, q_mod, q_pow, q_shl, q_lt, q_le, q_gt, q_ge, q_max2, q_min2, q_neg, q_abs, q_intI, q_intB, q_lenT, q_lenL, q_ixT, q_ixL, q_tupL, q_tupT, q_lstL, q_lstT, q_isN, q_gL, q_gT, q_gEnL, q_eq, q_ne, okMod_iff, okAll_iff, okPow_iff, okR_iff, at0, at1, at2, at3, at4, at5, is_int_non, is_int_bl, is_int_int, is_int_str, is_int_tup, is_int_lst, is_bool_non, is_bool_bl, is_bool_int, is_bool_str, is_bool_tup, is_bool_lst, is_str_non, is_str_bl, is_str_int, is_str_str, is_str_tup, is_str_lst, is_tuple_non, is_tuple_bl, is_tuple_int, is_tuple_str, is_tuple_tup, is_tuple_lst, is_list_non, is_list_bl, is_list_int, is_list_str, is_list_tup, is_list_lst, List.map_cons, List.map_nil, List.length_cons, List.length_nil, List.cons_append, List.nil_append, List.replicate_succ, List.replicate_zero, List.getElem?_cons_zero, List.getElem?_cons_succ, List.set_cons_zero, List.set_cons_succ, List.append_nil, bindP, wipeT, setAll, Nat.reduceSub, Nat.reduceAdd, true_and, and_true, if_true, if_false, Bool.not_true, Bool.not_false, eq_self, ite_true, ite_false, reduceIte, ne_eq, not_false_eq_true, not_true_eq_false, false_or, or_false, true_or, or_true, Bool.false_eq_true]
  refine take_spec hb2 (by decide) (by decide) fun many h3 hb3 n0 n1 => ?_
  simp only [w_ok, w_bind, w_of, w_fl, w_ite, w_iteN, ex_ite, ex_some, ex_map, ex_bind, w_C, w_V, w_Bin, w_Un, w_Nil, w_Cons, w_Tup, w_Lst, w_Box, w_Of, w_And, w_Or, w_Not, w_True, w_eAnd, w_eOr, w_eNot, w_If, w_Chain, w_oN, w_oS, w_Sl, w_Call, w_CallB, w_eJoin, w_Rev, ex_str, v_nx, v_rt, v_Skip, v_Seq, v_If, v_Ret, v_Expr, v_Set, v_Tp, v_Par, v_For, v_App, v_Mut, v_Ext, v_Put, v_PutB, ex_eqT, ex_eqL, ex_lst, ex_bl, ex_int, if_dec, w_iMap, w_iR1, w_iR2, w_iR3, w_iZ, w_iZE, w_Lc, w_LRg, v_AppPop, w_eJs, w_jsN, w_jsC, q_repL, q_gEnT, q_addT, q_shr, q_and, q_revL, q_revT, q_cat, q_lnL, p_two, q_slL, q_slT, q_add, q_sub, q_mul, q_div, q_mod, q_pow, q_shl, q_lt, q_le, q_gt, q_ge, q_max2, q_min2, q_neg, q_abs, q_intI, q_intB, q_lenT, q_lenL, q_ixT, q_ixL, q_tupL, q_tupT, q_lstL, q_lstT, q_isN, q_gL, q_gT, q_gEnL, q_eq, q_ne, okMod_iff, okAll_iff, okPow_iff, okR_iff, at0, at1, at2, at3, at4, at5, is_int_non, is_int_bl, is_int_int, is_int_str, is_int_tup, is_int_lst, is_bool_non, is_bool_bl, is_bool_int, is_bool_str, is_bool_tup, is_bool_lst, is_str_non, is_str_bl, is_str_int, is_str_str, is_str_tup, is_str_lst, is_tuple_non, is_tuple_bl, is_tuple_int, is_tuple_str, is_tuple_tup, is_tuple_lst, is_list_non, is_list_bl, is_list_int, is_list_str, is_list_tup, is_list_lst, List.map_cons, List.map_nil, List.length_cons, List.length_nil, List.cons_append, List.nil_append, List.replicate_succ, List.replicate_zero, List.getElem?_cons_zero, List.getElem?_cons_succ, List.set_cons_zero, List.set_cons_succ, List.append_nil, bindP, wipeT, setAll, Nat.reduceSub, Nat.reduceAdd, true_and, and_true, if_true, if_false, Bool.not_true, Bool.not_false, eq_self, ite_true, ite_false, reduceIte, ne_eq, not_false_eq_true, not_true_eq_false, false_or, or_false, true_or, or_true, Bool.false_eq_true]
  refine ⟨by omega, ?_⟩
  refine (lc_all (fun h => Bag h n) (fun _ y => ∃ i, y = itT i ∧ OkI ax i ∧ MkOk i) hb3 ?_).imp ?_
  · intro t mt h4 hb4
    refine ⟨_, rfl, ?_⟩
    unfold f_law_e1
    simp only [w_ok, w_bind, w_of, w_fl, w_ite, w_iteN, ex_ite, ex_some, ex_map, ex_bind, w_C, w_V, w_Bin, w_Un, w_Nil, w_Cons, w_Tup, w_Lst, w_Box, w_Of, w_And, w_Or, w_Not, w_True, w_eAnd, w_eOr, w_eNot, w_If, w_Chain, w_oN, w_oS, w_Sl, w_Call, w_CallB, w_eJoin, w_Rev, ex_str, v_nx, v_rt, v_Skip, v_Seq, v_If, v_Ret, v_Expr, v_Set, v_Tp, v_Par, v_For, v_App, v_Mut, v_Ext, v_Put, v_PutB, ex_eqT, ex_eqL, ex_lst, ex_bl, ex_int, if_dec, w_iMap, w_iR1, w_iR2, w_iR3, w_iZ, w_iZE, w_Lc, w_LRg, v_AppPop, w_eJs, w_jsN, w_jsC, q_repL, q_gEnT, q_addT, q_shr, q_and, q_revL, q_revT, q_cat, q_lnL, p_two, q_slL, q_slT, q_add, q_sub, q_mul, q_div, q_mod, q_pow, q_shl, q_lt, q_le, q_gt, q_ge, q_max2, q_min2, q_neg, q_abs, q_intI, q_intB, q_lenT, q_lenL, q_ixT, q_ixL, q_tupL, q_tupT, q_lstL, q_lstT, q_isN, q_gL, q_gT, q_gEnL, q_eq, q_ne, okMod_iff, okAll_iff, okPow_iff, okR_iff, at0, at1, at2, at3, at4, at5, is_int_non, is_int_bl, is_int_int, is_int_str, is_int_tup, is_int_lst, is_bool_non, is_bool_bl, is_bool_int, is_bool_str, is_bool_tup, is_bool_lst, is_str_non, is_str_bl, is_str_int, is_str_str, is_str_tup, is_str_lst, is_tuple_non, is_tuple_bl, is_tuple_int, is_tuple_str, is_tuple_tup, is_tuple_lst, is_list_non, is_list_bl, is_list_int, is_list_str, is_list_tup, is_list_lst, List.map_cons, List.map_nil, List.length_cons, List.length_nil, List.cons_append, List.nil_append, List.replicate_succ, List.replicate_zero, List.getElem?_cons_zero, List.getElem?_cons_succ, List.set_cons_zero, List.set_cons_succ, List.append_nil, bindP, wipeT, setAll, Nat.reduceSub, Nat.reduceAdd, true_and, and_true, if_true, if_false, Bool.not_true, Bool.not_false, eq_self, ite_true, ite_false, reduceIte, ne_eq, not_false_eq_true, not_true_eq_false, false_or, or_false, true_or, or_true, Bool.false_eq_true]
    exact item_spec2 hb4 ax2 ax3 fun i h' hb' oi si mi => ⟨⟨i, rfl, oi, mi⟩, hb'⟩
  rintro ys h4 ⟨al, hb4⟩
  obtain ⟨is, rfl, ok, mk, li⟩ := all2_items al
  have ql : (rngL 0 many.toNat 1).length = many.toNat := by simp [rngL]
  rw [ql] at li
  refine ⟨by rw [ql]; omega, ?_⟩
  try simp only [w_ok, w_bind, w_of, w_fl, w_ite, w_iteN, ex_ite, ex_some, ex_map, ex_bind, w_C, w_V, w_Bin, w_Un, w_Nil, w_Cons, w_Tup, w_Lst, w_Box, w_Of, w_And, w_Or, w_Not, w_True, w_eAnd, w_eOr, w_eNot, w_If, w_Chain, w_oN, w_oS, w_Sl, w_Call, w_CallB, w_eJoin, w_Rev, ex_str, v_nx, v_rt, v_Skip, v_Seq, v_If, v_Ret, v_Expr, v_Set, v_Tp, v_Par, v_For, v_App, v_Mut, v_Ext, v_Put, v_PutB, ex_eqT, ex_eqL, ex_lst, ex_bl, ex_int, if_dec, w_iMap, w_iR1, w_iR2, w_iR3, w_iZ, w_iZE, w_Lc, w_LRg, v_AppPop, w_eJs, w_jsN, w_jsC, q_repL, q_gEnT, q_addT, q_shr, q_and, q_revL, q_revT, q_cat, q_lnL, p_two, q_slL, q_slT, q_add, q_sub, q_mul, q_div, q_mod, q_pow, q_shl, q_lt, q_le, q_gt, q_ge, q_max2, q_min2, q_neg, q_abs, q_intI, q_intB, q_lenT, q_lenL, q_ixT, q_ixL, q_tupL, q_tupT, q_lstL, q_lstT, q_isN, q_gL, q_gT, q_gEnL, q_eq, q_ne, okMod_iff, okAll_iff, okPow_iff, okR_iff, at0, at1, at2, at3, at4, at5, is_int_non, is_int_bl, is_int_int, is_int_str, is_int_tup, is_int_lst, is_bool_non, is_bool_bl, is_bool_int, is_bool_str, is_bool_tup, is_bool_lst, is_str_non, is_str_bl, is_str_int, is_str_str, is_str_tup, is_str_lst, is_tuple_non, is_tuple_bl, is_tuple_int, is_tuple_str, is_tuple_tup, is_tuple_lst, is_list_non, is_list_bl, is_list_int, is_list_str, is_list_tup, is_list_lst, List.map_cons, List.map_nil, List.length_cons, List.length_nil, List.cons_append, List.nil_append, List.replicate_succ, List.replicate_zero, List.getElem?_cons_zero, List.getElem?_cons_succ, List.set_cons_zero, List.set_cons_succ, List.append_nil, bindP, wipeT, setAll, Nat.reduceSub, Nat.reduceAdd, true_and, and_true, if_true, if_false, Bool.not_true, Bool.not_false, eq_self, ite_true, ite_false, reduceIte, ne_eq, not_false_eq_true, not_true_eq_false, false_or, or_false, true_or, or_true, Bool.false_eq_true]
  unfold f_law_r5
  simp only [w_ok, w_bind, w_of, w_fl, w_ite, w_iteN, ex_ite, ex_some, ex_map, ex_bind, w_C, w_V, w_Bin, w_Un, w_Nil, w_Cons, w_Tup, w_Lst, w_Box, w_Of, w_And, w_Or, w_Not, w_True, w_eAnd, w_eOr, w_eNot, w_If, w_Chain, w_oN, w_oS, w_Sl, w_Call, w_CallB, w_eJoin, w_Rev, ex_str, v_nx, v_rt, v_Skip, v_Seq, v_If, v_Ret, v_Expr, v_Set, v_Tp, v_Par, v_For, v_App, v_Mut, v_Ext, v_Put, v_PutB, ex_eqT, ex_eqL, ex_lst, ex_bl, ex_int, if_dec, w_iMap, w_iR1, w_iR2, w_iR3, w_iZ, w_iZE, w_Lc, w_LRg, v_AppPop, w_eJs, w_jsN, w_jsC, q_repL, q_gEnT, q_addT, q_shr, q_and, q_revL, q_revT, q_cat, q_lnL, p_two, q_slL, q_slT, q_add, q_sub, q_mul, q_div, q_mod, q_pow, q_shl, q_lt, q_le, q_gt, q_ge, q_max2, q_min2, q_neg, q_abs, q_intI, q_intB, q_lenT, q_lenL, q_ixT, q_ixL, q_tupL, q_tupT, q_lstL, q_lstT, q_isN, q_gL, q_gT, q_gEnL, q_eq, q_ne, okMod_iff, okAll_iff, okPow_iff, okR_iff, at0, at1, at2, at3, at4, at5, is_int_non, is_int_bl, is_int_int, is_int_str, is_int_tup, is_int_lst, is_bool_non, is_bool_bl, is_bool_int, is_bool_str, is_bool_tup, is_bool_lst, is_str_non, is_str_bl, is_str_int, is_str_str, is_str_tup, is_str_lst, is_tuple_non, is_tuple_bl, is_tuple_int, is_tuple_str, is_tuple_tup, is_tuple_lst, is_list_non, is_list_bl, is_list_int, is_list_str, is_list_tup, is_list_lst, List.map_cons, List.map_nil, List.length_cons, List.length_nil, List.cons_append, List.nil_append, List.replicate_succ, List.replicate_zero, List.getElem?_cons_zero, List.getElem?_cons_succ, List.set_cons_zero, List.set_cons_succ, List.append_nil, bindP, wipeT, setAll, Nat.reduceSub, Nat.reduceAdd, true_and, and_true, if_true, if_false, Bool.not_true, Bool.not_false, eq_self, ite_true, ite_false, reduceIte, ne_eq, not_false_eq_true, not_true_eq_false, false_or, or_false, true_or, or_true, Bool.false_eq_true]
  refine entry_spec hb4 ax2 ax3 fun en h5 hb5 oe => ?_
  try simp only [w_ok, w_bind, w_of, w_fl, w_ite, w_iteN, ex_ite, ex_some, ex_map, ex_bind, w_C, w_V, w_Bin, w_Un, w_Nil, w_Cons, w_Tup, w_Lst, w_Box, w_Of, w_And, w_Or, w_Not, w_True, w_eAnd, w_eOr, w_eNot, w_If, w_Chain, w_oN, w_oS, w_Sl, w_Call, w_CallB, w_eJoin, w_Rev, ex_str, v_nx, v_rt, v_Skip, v_Seq, v_If, v_Ret, v_Expr, v_Set, v_Tp, v_Par, v_For, v_App, v_Mut, v_Ext, v_Put, v_PutB, ex_eqT, ex_eqL, ex_lst, ex_bl, ex_int, if_dec, w_iMap, w_iR1, w_iR2, w_iR3, w_iZ, w_iZE, w_Lc, w_LRg, v_AppPop, w_eJs, w_jsN, w_jsC, q_repL, q_gEnT, q_addT, q_shr, q_and, q_revL, q_revT, q_cat, q_lnL, p_two, q_slL, q_slT, q_add, q_sub, q_mul, q_div, q_mod, q_pow, q_shl, q_lt, q_le, q_gt, q_ge, q_max2, q_min2, q_neg, q_abs, q_intI, q_intB, q_lenT, q_lenL, q_ixT, q_ixL, q_tupL, q_tupT, q_lstL, q_lstT, q_isN, q_gL, q_gT, q_gEnL, q_eq, q_ne, okMod_iff, okAll_iff, okPow_iff, okR_iff, at0, at1, at2, at3, at4, at5, is_int_non, is_int_bl, is_int_int, is_int_str, is_int_tup, is_int_lst, is_bool_non, is_bool_bl, is_bool_int, is_bool_str, is_bool_tup, is_bool_lst, is_str_non, is_str_bl, is_str_int, is_str_str, is_str_tup, is_str_lst, is_tuple_non, is_tuple_bl, is_tuple_int, is_tuple_str, is_tuple_tup, is_tuple_lst, is_list_non, is_list_bl, is_list_int, is_list_str, is_list_tup, is_list_lst, List.map_cons, List.map_nil, List.length_cons, List.length_nil, List.cons_append, List.nil_append, List.replicate_succ, List.replicate_zero, List.getElem?_cons_zero, List.getElem?_cons_succ, List.set_cons_zero, List.set_cons_succ, List.append_nil, bindP, wipeT, setAll, Nat.reduceSub, Nat.reduceAdd, true_and, and_true, if_true, if_false, Bool.not_true, Bool.not_false, eq_self, ite_true, ite_false, reduceIte, ne_eq, not_false_eq_true, not_true_eq_false, false_or, or_false, true_or, or_true, Bool.false_eq_true]
  unfold f_law_r4
  simp only [w_ok, w_bind, w_of, w_fl, w_ite, w_iteN, ex_ite, ex_some, ex_map, ex_bind, w_C, w_V, w_Bin, w_Un, w_Nil, w_Cons, w_Tup, w_Lst, w_Box, w_Of, w_And, w_Or, w_Not, w_True, w_eAnd, w_eOr, w_eNot, w_If, w_Chain, w_oN, w_oS, w_Sl, w_Call, w_CallB, w_eJoin, w_Rev, ex_str, v_nx, v_rt, v_Skip, v_Seq, v_If, v_Ret, v_Expr, v_Set, v_Tp, v_Par, v_For, v_App, v_Mut, v_Ext, v_Put, v_PutB, ex_eqT, ex_eqL, ex_lst, ex_bl, ex_int, if_dec, w_iMap, w_iR1, w_iR2, w_iR3, w_iZ, w_iZE, w_Lc, w_LRg, v_AppPop, w_eJs, w_jsN, w_jsC, q_repL, q_gEnT, q_addT, q_shr, q_and, q_revL, q_revT, q_cat, q_lnL, p_two, q_slL, q_slT, q_add, q_sub, q_mul, q_div, q_mod, q_pow, q_shl, q_lt, q_le, q_gt, q_ge, q_max2, q_min2, q_neg, q_abs, q_intI, q_intB, q_lenT, q_lenL, q_ixT, q_ixL, q_tupL, q_tupT, q_lstL, q_lstT, q_isN, q_gL, q_gT, q_gEnL, q_eq, q_ne, okMod_iff, okAll_iff, okPow_iff, okR_iff, at0, at1, at2, at3, at4, at5, is_int_non, is_int_bl, is_int_int, is_int_str, is_int_tup, is_int_lst, is_bool_non, is_bool_bl, is_bool_int, is_bool_str, is_bool_tup, is_bool_lst, is_str_non, is_str_bl, is_str_int, is_str_str, is_str_tup, is_str_lst, is_tuple_non, is_tuple_bl, is_tuple_int, is_tuple_str, is_tuple_tup, is_tuple_lst, is_list_non, is_list_bl, is_list_int, is_list_str, is_list_tup, is_list_lst, List.map_cons, List.map_nil, List.length_cons, List.length_nil, List.cons_append, List.nil_append, List.replicate_succ, List.replicate_zero, List.getElem?_cons_zero, List.getElem?_cons_succ, List.set_cons_zero, List.set_cons_succ, List.append_nil, bindP, wipeT, setAll, Nat.reduceSub, Nat.reduceAdd, true_and, and_true, if_true, if_false, Bool.not_true, Bool.not_false, eq_self, ite_true, ite_false, reduceIte, ne_eq, not_false_eq_true, not_true_eq_false, false_or, or_false, true_or, or_true, Bool.false_eq_true]
  refine fraction_spec hb5 fun u l h6 hb6 fq => ?_
  try simp only [w_ok, w_bind, w_of, w_fl, w_ite, w_iteN, ex_ite, ex_some, ex_map, ex_bind, w_C, w_V, w_Bin, w_Un, w_Nil, w_Cons, w_Tup, w_Lst, w_Box, w_Of, w_And, w_Or, w_Not, w_True, w_eAnd, w_eOr, w_eNot, w_If, w_Chain, w_oN, w_oS, w_Sl, w_Call, w_CallB, w_eJoin, w_Rev, ex_str, v_nx, v_rt, v_Skip, v_Seq, v_If, v_Ret, v_Expr, v_Set, v_Tp, v_Par, v_For, v_App, v_Mut, v_Ext, v_Put, v_PutB, ex_eqT, ex_eqL, ex_lst, ex_bl, ex_int, if_dec, w_iMap, w_iR1, w_iR2, w_iR3, w_iZ, w_iZE, w_Lc, w_LRg, v_AppPop, w_eJs, w_jsN, w_jsC, q_repL, q_gEnT, q_addT, q_shr, q_and, q_revL, q_revT, q_cat, q_lnL, p_two, q_slL, q_slT, q_add, q_sub, q_mul, q_div, q_mod, q_pow, q_shl, q_lt, q_le, q_gt, q_ge, q_max2, q_min2, q_neg, q_abs, q_intI, q_intB, q_lenT, q_lenL, q_ixT, q_ixL, q_tupL, q_tupT, q_lstL, q_lstT, q_isN, q_gL, q_gT, q_gEnL, q_eq, q_ne, okMod_iff, okAll_iff, okPow_iff, okR_iff, at0, at1, at2, at3, at4, at5, is_int_non, is_int_bl, is_int_int, is_int_str, is_int_tup, is_int_lst, is_bool_non, is_bool_bl, is_bool_int, is_bool_str, is_bool_tup, is_bool_lst, is_str_non, is_str_bl, is_str_int, is_str_str, is_str_tup, is_str_lst, is_tuple_non, is_tuple_bl, is_tuple_int, is_tuple_str, is_tuple_tup, is_tuple_lst, is_list_non, is_list_bl, is_list_int, is_list_str, is_list_tup, is_list_lst, List.map_cons, List.map_nil, List.length_cons, List.length_nil, List.cons_append, List.nil_append, List.replicate_succ, List.replicate_zero, List.getElem?_cons_zero, List.getElem?_cons_succ, List.set_cons_zero, List.set_cons_succ, List.append_nil, bindP, wipeT, setAll, Nat.reduceSub, Nat.reduceAdd, true_and, and_true, if_true, if_false, Bool.not_true, Bool.not_false, eq_self, ite_true, ite_false, reduceIte, ne_eq, not_false_eq_true, not_true_eq_false, false_or, or_false, true_or, or_true, Bool.false_eq_true]
  have l1 := fq.lo
  have l2 := fq.hi
  have l3 := fq.fq.pos
  have l4 := fq.qm
  have hu : u.natAbs < 10 ^ 40 := by omega
  have hl' : l.natAbs < 10 ^ 40 := by omega
  have sf := fun h : IH => show_fraction_is (h := h) hu hl'
  have ft := fun h : IH => fraction_text_is (h := h) hu hl'
  have si := fun h : IH => show_items_is (h := h) ax3 ok mk (by omega)
  obtain ⟨z1, o1, p1, p2, e1⟩ := show_entry_is oe
  obtain ⟨z2, o2, q1, q2, e2⟩ := law_entry_text_is oe
  have ez : z2 = z1 := by
    rcases oe with ⟨i, rfl, _⟩ | ⟨row, k', a, b, rfl, _⟩
    · rw [p1 i rfl, q1 i rfl]
    · rw [p2 _ _ _ _ rfl, q2 _ _ _ _ rfl]
  subst ez
  have okJ : PyData.strOk (Txt.join "\n" (is.map itS)) = true := ok_join (by decide +kernel) fun z m => by
    obtain ⟨x, mx, rfl⟩ := List.mem_map.mp m
    exact itS_ok (mk x mx)
  have rJ := fun h : IH => right_is (h := h) okJ
  have rE := fun h : IH => right_is (h := h) o1
  have rF := fun h : IH => right_is (z := frS u l) (h := h) frS_ok
  unfold f_law_r3
  have el : ∀ (a0 a1 a2 a3 a4 a5 a6 a7 a8 a9 : Option T) (h : IH), lcGo (.nm 10) sTrue f_law_e2 [a0, a1, a2, a3, a4, a5, a6, a7, a8, a9, none] (is.map itT) h = .ok (is.map fun x => T.str (itS x)) h := fun a0 a1 a2 a3 a4 a5 a6 a7 a8 a9 h =>
    lc_maps (τo := fun x => [a0, a1, a2, a3, a4, a5, a6, a7, a8, a9, some (itT x)]) (fun _ _ => rfl) fun x mx => by
      refine Ok.eq ?_
      unfold f_law_e2
      have q := fun h : IH => item_text_is (h := h) ax3 (ok x mx) (mk x mx)
      simp only [w_ok, w_bind, w_of, w_fl, w_ite, w_iteN, ex_ite, ex_some, ex_map, ex_bind, w_C, w_V, w_Bin, w_Un, w_Nil, w_Cons, w_Tup, w_Lst, w_Box, w_Of, w_And, w_Or, w_Not, w_True, w_eAnd, w_eOr, w_eNot, w_If, w_Chain, w_oN, w_oS, w_Sl, w_Call, w_CallB, w_eJoin, w_Rev, ex_str, v_nx, v_rt, v_Skip, v_Seq, v_If, v_Ret, v_Expr, v_Set, v_Tp, v_Par, v_For, v_App, v_Mut, v_Ext, v_Put, v_PutB, ex_eqT, ex_eqL, ex_lst, ex_bl, ex_int, if_dec, w_iMap, w_iR1, w_iR2, w_iR3, w_iZ, w_iZE, w_Lc, w_LRg, v_AppPop, w_eJs, w_jsN, w_jsC, q_repL, q_gEnT, q_addT, q_shr, q_and, q_revL, q_revT, q_cat, q_lnL, p_two, q_slL, q_slT, q_add, q_sub, q_mul, q_div, q_mod, q_pow, q_shl, q_lt, q_le, q_gt, q_ge, q_max2, q_min2, q_neg, q_abs, q_intI, q_intB, q_lenT, q_lenL, q_ixT, q_ixL, q_tupL, q_tupT, q_lstL, q_lstT, q_isN, q_gL, q_gT, q_gEnL, q_eq, q_ne, okMod_iff, okAll_iff, okPow_iff, okR_iff, at0, at1, at2, at3, at4, at5, is_int_non, is_int_bl, is_int_int, is_int_str, is_int_tup, is_int_lst, is_bool_non, is_bool_bl, is_bool_int, is_bool_str, is_bool_tup, is_bool_lst, is_str_non, is_str_bl, is_str_int, is_str_str, is_str_tup, is_str_lst, is_tuple_non, is_tuple_bl, is_tuple_int, is_tuple_str, is_tuple_tup, is_tuple_lst, is_list_non, is_list_bl, is_list_int, is_list_str, is_list_tup, is_list_lst, List.map_cons, List.map_nil, List.length_cons, List.length_nil, List.cons_append, List.nil_append, List.replicate_succ, List.replicate_zero, List.getElem?_cons_zero, List.getElem?_cons_succ, List.set_cons_zero, List.set_cons_succ, List.append_nil, bindP, wipeT, setAll, Nat.reduceSub, Nat.reduceAdd, true_and, and_true, if_true, if_false, Bool.not_true, Bool.not_false, eq_self, ite_true, ite_false, reduceIte, ne_eq, not_false_eq_true, not_true_eq_false, false_or, or_false, true_or, or_true, Bool.false_eq_true, q]
  have rl := rows_len ax3 ok mk (by omega)
  have ie : itL is = is.map itT := rfl
  simp only [ie, w_ok, w_bind, w_of, w_fl, w_ite, w_iteN, ex_ite, ex_some, ex_map, ex_bind, w_C, w_V, w_Bin, w_Un, w_Nil, w_Cons, w_Tup, w_Lst, w_Box, w_Of, w_And, w_Or, w_Not, w_True, w_eAnd, w_eOr, w_eNot, w_If, w_Chain, w_oN, w_oS, w_Sl, w_Call, w_CallB, w_eJoin, w_Rev, ex_str, v_nx, v_rt, v_Skip, v_Seq, v_If, v_Ret, v_Expr, v_Set, v_Tp, v_Par, v_For, v_App, v_Mut, v_Ext, v_Put, v_PutB, ex_eqT, ex_eqL, ex_lst, ex_bl, ex_int, if_dec, w_iMap, w_iR1, w_iR2, w_iR3, w_iZ, w_iZE, w_Lc, w_LRg, v_AppPop, w_eJs, w_jsN, w_jsC, q_repL, q_gEnT, q_addT, q_shr, q_and, q_revL, q_revT, q_cat, q_lnL, p_two, q_slL, q_slT, q_add, q_sub, q_mul, q_div, q_mod, q_pow, q_shl, q_lt, q_le, q_gt, q_ge, q_max2, q_min2, q_neg, q_abs, q_intI, q_intB, q_lenT, q_lenL, q_ixT, q_ixL, q_tupL, q_tupT, q_lstL, q_lstT, q_isN, q_gL, q_gT, q_gEnL, q_eq, q_ne, okMod_iff, okAll_iff, okPow_iff, okR_iff, at0, at1, at2, at3, at4, at5, is_int_non, is_int_bl, is_int_int, is_int_str, is_int_tup, is_int_lst, is_bool_non, is_bool_bl, is_bool_int, is_bool_str, is_bool_tup, is_bool_lst, is_str_non, is_str_bl, is_str_int, is_str_str, is_str_tup, is_str_lst, is_tuple_non, is_tuple_bl, is_tuple_int, is_tuple_str, is_tuple_tup, is_tuple_lst, is_list_non, is_list_bl, is_list_int, is_list_str, is_list_tup, is_list_lst, List.map_cons, List.map_nil, List.length_cons, List.length_nil, List.cons_append, List.nil_append, List.replicate_succ, List.replicate_zero, List.getElem?_cons_zero, List.getElem?_cons_succ, List.set_cons_zero, List.set_cons_succ, List.append_nil, bindP, wipeT, setAll, Nat.reduceSub, Nat.reduceAdd, true_and, and_true, if_true, if_false, Bool.not_true, Bool.not_false, eq_self, ite_true, ite_false, reduceIte, ne_eq, not_false_eq_true, not_true_eq_false, false_or, or_false, true_or, or_true, Bool.false_eq_true]
  rw [el, w_ok]
  refine ⟨by rw [List.length_map]; omega, _, q_joinS strs_map rl, ?_⟩
  rw [← ie]
  have fl := hb6.flat
  generalize Txt.join "\n" (is.map itS) = J at *
  generalize frS u l = F at *
  unfold f_law_r2
  rw [v_For]
  simp only [w_ok, w_bind, w_of, w_fl, w_ite, w_iteN, ex_ite, ex_some, ex_map, ex_bind, w_C, w_V, w_Bin, w_Un, w_Nil, w_Cons, w_Tup, w_Lst, w_Box, w_Of, w_And, w_Or, w_Not, w_True, w_eAnd, w_eOr, w_eNot, w_If, w_Chain, w_oN, w_oS, w_Sl, w_Call, w_CallB, w_eJoin, w_Rev, ex_str, v_nx, v_rt, v_Skip, v_Seq, v_If, v_Ret, v_Expr, v_Set, v_Tp, v_Par, v_For, v_App, v_Mut, v_Ext, v_Put, v_PutB, ex_eqT, ex_eqL, ex_lst, ex_bl, ex_int, if_dec, w_iMap, w_iR1, w_iR2, w_iR3, w_iZ, w_iZE, w_Lc, w_LRg, v_AppPop, w_eJs, w_jsN, w_jsC, q_repL, q_gEnT, q_addT, q_shr, q_and, q_revL, q_revT, q_cat, q_lnL, p_two, q_slL, q_slT, q_add, q_sub, q_mul, q_div, q_mod, q_pow, q_shl, q_lt, q_le, q_gt, q_ge, q_max2, q_min2, q_neg, q_abs, q_intI, q_intB, q_lenT, q_lenL, q_ixT, q_ixL, q_tupL, q_tupT, q_lstL, q_lstT, q_isN, q_gL, q_gT, q_gEnL, q_eq, q_ne, okMod_iff, okAll_iff, okPow_iff, okR_iff, at0, at1, at2, at3, at4, at5, is_int_non, is_int_bl, is_int_int, is_int_str, is_int_tup, is_int_lst, is_bool_non, is_bool_bl, is_bool_int, is_bool_str, is_bool_tup, is_bool_lst, is_str_non, is_str_bl, is_str_int, is_str_str, is_str_tup, is_str_lst, is_tuple_non, is_tuple_bl, is_tuple_int, is_tuple_str, is_tuple_tup, is_tuple_lst, is_list_non, is_list_bl, is_list_int, is_list_str, is_list_tup, is_list_lst, List.map_cons, List.map_nil, List.length_cons, List.length_nil, List.cons_append, List.nil_append, List.replicate_succ, List.replicate_zero, List.getElem?_cons_zero, List.getElem?_cons_succ, List.set_cons_zero, List.set_cons_succ, List.append_nil, bindP, wipeT, setAll, Nat.reduceSub, Nat.reduceAdd, true_and, and_true, if_true, if_false, Bool.not_true, Bool.not_false, eq_self, ite_true, ite_false, reduceIte, ne_eq, not_false_eq_true, not_true_eq_false, false_or, or_false, true_or, or_true, Bool.false_eq_true]
  refine ⟨by decide, ?_⟩
  apply for_keep (fun τ h' => h' = h6 ∧ ∃ y8 y9 y10, τ = [some (.lst (ns.map T.int)), some (.int k), some (.box n), some (.int (ax : Int)), some (.tup (itL is)), some en, some (frT u l), some (.str J), y8, y9, y10])
  case h0 => exact ⟨rfl, _, _, _, rfl⟩
  case fin => exact fun τ h' ⟨e, y8, y9, y10, q⟩ => ⟨by rw [e]; exact fl, _, _, _, _, _, _, _, _, _, _, q⟩
  rintro t' mt τ h' ⟨rfl, y8, y9, y10, rfl⟩
  refine ⟨_, rfl, ?_⟩
  unfold f_law_b1
  simp only [v_Seq, v_If, si, rJ, e1, e2, rE, w_ok, w_bind, w_of, w_fl, w_ite, w_iteN, ex_ite, ex_some, ex_map, ex_bind, w_C, w_V, w_Bin, w_Un, w_Nil, w_Cons, w_Tup, w_Lst, w_Box, w_Of, w_And, w_Or, w_Not, w_True, w_eAnd, w_eOr, w_eNot, w_If, w_Chain, w_oN, w_oS, w_Sl, w_Call, w_CallB, w_eJoin, w_Rev, ex_str, v_nx, v_rt, v_Skip, v_Seq, v_If, v_Ret, v_Expr, v_Set, v_Tp, v_Par, v_For, v_App, v_Mut, v_Ext, v_Put, v_PutB, ex_eqT, ex_eqL, ex_lst, ex_bl, ex_int, if_dec, w_iMap, w_iR1, w_iR2, w_iR3, w_iZ, w_iZE, w_Lc, w_LRg, v_AppPop, w_eJs, w_jsN, w_jsC, q_repL, q_gEnT, q_addT, q_shr, q_and, q_revL, q_revT, q_cat, q_lnL, p_two, q_slL, q_slT, q_add, q_sub, q_mul, q_div, q_mod, q_pow, q_shl, q_lt, q_le, q_gt, q_ge, q_max2, q_min2, q_neg, q_abs, q_intI, q_intB, q_lenT, q_lenL, q_ixT, q_ixL, q_tupL, q_tupT, q_lstL, q_lstT, q_isN, q_gL, q_gT, q_gEnL, q_eq, q_ne, okMod_iff, okAll_iff, okPow_iff, okR_iff, at0, at1, at2, at3, at4, at5, is_int_non, is_int_bl, is_int_int, is_int_str, is_int_tup, is_int_lst, is_bool_non, is_bool_bl, is_bool_int, is_bool_str, is_bool_tup, is_bool_lst, is_str_non, is_str_bl, is_str_int, is_str_str, is_str_tup, is_str_lst, is_tuple_non, is_tuple_bl, is_tuple_int, is_tuple_str, is_tuple_tup, is_tuple_lst, is_list_non, is_list_bl, is_list_int, is_list_str, is_list_tup, is_list_lst, List.map_cons, List.map_nil, List.length_cons, List.length_nil, List.cons_append, List.nil_append, List.replicate_succ, List.replicate_zero, List.getElem?_cons_zero, List.getElem?_cons_succ, List.set_cons_zero, List.set_cons_succ, List.append_nil, bindP, wipeT, setAll, Nat.reduceSub, Nat.reduceAdd, true_and, and_true, if_true, if_false, Bool.not_true, Bool.not_false, eq_self, ite_true, ite_false, reduceIte, ne_eq, not_false_eq_true, not_true_eq_false, false_or, or_false, true_or, or_true, Bool.false_eq_true]
  unfold f_law_r1
  simp only [v_Seq, v_If, sf, ft, rF, w_ok, w_bind, w_of, w_fl, w_ite, w_iteN, ex_ite, ex_some, ex_map, ex_bind, w_C, w_V, w_Bin, w_Un, w_Nil, w_Cons, w_Tup, w_Lst, w_Box, w_Of, w_And, w_Or, w_Not, w_True, w_eAnd, w_eOr, w_eNot, w_If, w_Chain, w_oN, w_oS, w_Sl, w_Call, w_CallB, w_eJoin, w_Rev, ex_str, v_nx, v_rt, v_Skip, v_Seq, v_If, v_Ret, v_Expr, v_Set, v_Tp, v_Par, v_For, v_App, v_Mut, v_Ext, v_Put, v_PutB, ex_eqT, ex_eqL, ex_lst, ex_bl, ex_int, if_dec, w_iMap, w_iR1, w_iR2, w_iR3, w_iZ, w_iZE, w_Lc, w_LRg, v_AppPop, w_eJs, w_jsN, w_jsC, q_repL, q_gEnT, q_addT, q_shr, q_and, q_revL, q_revT, q_cat, q_lnL, p_two, q_slL, q_slT, q_add, q_sub, q_mul, q_div, q_mod, q_pow, q_shl, q_lt, q_le, q_gt, q_ge, q_max2, q_min2, q_neg, q_abs, q_intI, q_intB, q_lenT, q_lenL, q_ixT, q_ixL, q_tupL, q_tupT, q_lstL, q_lstT, q_isN, q_gL, q_gT, q_gEnL, q_eq, q_ne, okMod_iff, okAll_iff, okPow_iff, okR_iff, at0, at1, at2, at3, at4, at5, is_int_non, is_int_bl, is_int_int, is_int_str, is_int_tup, is_int_lst, is_bool_non, is_bool_bl, is_bool_int, is_bool_str, is_bool_tup, is_bool_lst, is_str_non, is_str_bl, is_str_int, is_str_str, is_str_tup, is_str_lst, is_tuple_non, is_tuple_bl, is_tuple_int, is_tuple_str, is_tuple_tup, is_tuple_lst, is_list_non, is_list_bl, is_list_int, is_list_str, is_list_tup, is_list_lst, List.map_cons, List.map_nil, List.length_cons, List.length_nil, List.cons_append, List.nil_append, List.replicate_succ, List.replicate_zero, List.getElem?_cons_zero, List.getElem?_cons_succ, List.set_cons_zero, List.set_cons_succ, List.append_nil, bindP, wipeT, setAll, Nat.reduceSub, Nat.reduceAdd, true_and, and_true, if_true, if_false, Bool.not_true, Bool.not_false, eq_self, ite_true, ite_false, reduceIte, ne_eq, not_false_eq_true, not_true_eq_false, false_or, or_false, true_or, or_true, Bool.false_eq_true]
  first | exact ⟨_, _, _, rfl⟩ | exact ⟨rfl, _, _, _, rfl⟩
theorem law_true (ns : List Int) (hl : ns.length ≤ 63) : ∃ h', f_law [.lst (ns.map T.int)] [] = .ok (.bl true) h' := by
  have key : Ok (f_law [.lst (ns.map T.int)] []) fun t _ => t = .bl true := by
    unfold f_law
    rw [w_runF]
    refine ⟨rfl, ?_⟩
    rw [v_Seq, v_For]
    simp only [w_iR1, w_ok, w_bind, w_of, w_fl, w_ite, w_iteN, ex_ite, ex_some, ex_map, ex_bind, w_C, w_V, w_Bin, w_Un, w_Nil, w_Cons, w_Tup, w_Lst, w_Box, w_Of, w_And, w_Or, w_Not, w_True, w_eAnd, w_eOr, w_eNot, w_If, w_Chain, w_oN, w_oS, w_Sl, w_Call, w_CallB, w_eJoin, w_Rev, ex_str, v_nx, v_rt, v_Skip, v_Seq, v_If, v_Ret, v_Expr, v_Set, v_Tp, v_Par, v_For, v_App, v_Mut, v_Ext, v_Put, v_PutB, ex_eqT, ex_eqL, ex_lst, ex_bl, ex_int, if_dec, w_iMap, w_iR1, w_iR2, w_iR3, w_iZ, w_iZE, w_Lc, w_LRg, v_AppPop, w_eJs, w_jsN, w_jsC, q_repL, q_gEnT, q_addT, q_shr, q_and, q_revL, q_revT, q_cat, q_lnL, p_two, q_slL, q_slT, q_add, q_sub, q_mul, q_div, q_mod, q_pow, q_shl, q_lt, q_le, q_gt, q_ge, q_max2, q_min2, q_neg, q_abs, q_intI, q_intB, q_lenT, q_lenL, q_ixT, q_ixL, q_tupL, q_tupT, q_lstL, q_lstT, q_isN, q_gL, q_gT, q_gEnL, q_eq, q_ne, okMod_iff, okAll_iff, okPow_iff, okR_iff, at0, at1, at2, at3, at4, at5, is_int_non, is_int_bl, is_int_int, is_int_str, is_int_tup, is_int_lst, is_bool_non, is_bool_bl, is_bool_int, is_bool_str, is_bool_tup, is_bool_lst, is_str_non, is_str_bl, is_str_int, is_str_str, is_str_tup, is_str_lst, is_tuple_non, is_tuple_bl, is_tuple_int, is_tuple_str, is_tuple_tup, is_tuple_lst, is_list_non, is_list_bl, is_list_int, is_list_str, is_list_tup, is_list_lst, List.map_cons, List.map_nil, List.length_cons, List.length_nil, List.cons_append, List.nil_append, List.replicate_succ, List.replicate_zero, List.getElem?_cons_zero, List.getElem?_cons_succ, List.set_cons_zero, List.set_cons_succ, List.append_nil, bindP, wipeT, setAll, Nat.reduceSub, Nat.reduceAdd, true_and, and_true, if_true, if_false, Bool.not_true, Bool.not_false, eq_self, ite_true, ite_false, reduceIte, ne_eq, not_false_eq_true, not_true_eq_false, false_or, or_false, true_or, or_true, Bool.false_eq_true, List.length_map]
    refine ⟨by repeat' split
               all_goals omega, ?_⟩
    apply for_keep (fun τ h => flatH h = true ∧ ∃ y1 y2 y3 y4 y5 y6 y7 y8 y9 y10, τ = [some (.lst (ns.map T.int)), y1, y2, y3, y4, y5, y6, y7, y8, y9, y10])
    case h0 => exact ⟨rfl, _, _, _, _, _, _, _, _, _, _, rfl⟩
    case fin => exact fun τ h' q => trivial
    rintro t mt τ h ⟨hf, y1, y2, y3, y4, y5, y6, y7, y8, y9, y10, rfl⟩
    obtain ⟨j, mj, rfl⟩ := List.mem_map.mp mt
    have hj := List.mem_range.mp mj
    refine ⟨_, rfl, ?_⟩
    exact law_body hl (by omega) (by (repeat' split at hj) <;> omega) hf
  obtain ⟨a, h', e, rfl⟩ := key.ex
  exact ⟨h', e⟩
end Lw
namespace Lw
open PySem PySem.Spec PyProof.Rows L2 GB
theorem all_mk {l : PySem.W.OpenLaw} {w : World} {K : PySem.W.Frag} {h : Heap} {mg : Str → Option Value} {fa : Addr} (X : K.In h) (G : h.Ns mainGlobals mg) (hfa : mg "law" = some (.ref fa))
    {f0 : Addr} {od0 an0 : Option Addr} {sl0 : Array (Option Value)} {oc0 kV0 dc0 pm0 cd0 ct0 : Value} (a0 : PySem.W.nsIn K mainGlobals "_law_bag" = some (some (.ref f0))) (l0 : K.lookup f0 = some ⟨oc0, od0, .func (PySem.W.fnOf "_law_bag" "_law_bag" (defArgs (topS 6)) (defBody (topS 6)) (defScope (topS 6)) .none kV0 dc0 pm0 an0 cd0 ct0), sl0⟩) (c0 : PySem.W.codeIn K cd0 "_law_bag" = true) (k0 : PySem.W.keepIn K (.ref f0) = true)
    {f1 : Addr} {od1 an1 : Option Addr} {sl1 : Array (Option Value)} {oc1 kV1 dc1 pm1 cd1 ct1 : Value} (a1 : PySem.W.nsIn K mainGlobals "_law_take" = some (some (.ref f1))) (l1 : K.lookup f1 = some ⟨oc1, od1, .func (PySem.W.fnOf "_law_take" "_law_take" (defArgs (topS 7)) (defBody (topS 7)) (defScope (topS 7)) .none kV1 dc1 pm1 an1 cd1 ct1), sl1⟩) (c1 : PySem.W.codeIn K cd1 "_law_take" = true) (k1 : PySem.W.keepIn K (.ref f1) = true)
    {f2 : Addr} {od2 an2 : Option Addr} {sl2 : Array (Option Value)} {oc2 kV2 dc2 pm2 cd2 ct2 : Value} (a2 : PySem.W.nsIn K mainGlobals "_law_name" = some (some (.ref f2))) (l2 : K.lookup f2 = some ⟨oc2, od2, .func (PySem.W.fnOf "_law_name" "_law_name" (defArgs (topS 12)) (defBody (topS 12)) (defScope (topS 12)) .none kV2 dc2 pm2 an2 cd2 ct2), sl2⟩) (c2 : PySem.W.codeIn K cd2 "_law_name" = true) (k2 : PySem.W.keepIn K (.ref f2) = true)
    {f3 : Addr} {od3 an3 : Option Addr} {sl3 : Array (Option Value)} {oc3 kV3 dc3 pm3 cd3 ct3 : Value} (a3 : PySem.W.nsIn K mainGlobals "_law_item" = some (some (.ref f3))) (l3 : K.lookup f3 = some ⟨oc3, od3, .func (PySem.W.fnOf "_law_item" "_law_item" (defArgs (topS 13)) (defBody (topS 13)) (defScope (topS 13)) .none kV3 dc3 pm3 an3 cd3 ct3), sl3⟩) (c3 : PySem.W.codeIn K cd3 "_law_item" = true) (k3 : PySem.W.keepIn K (.ref f3) = true)
    {f4 : Addr} {od4 an4 : Option Addr} {sl4 : Array (Option Value)} {oc4 kV4 dc4 pm4 cd4 ct4 : Value} (a4 : PySem.W.nsIn K mainGlobals "_law_divisor" = some (some (.ref f4))) (l4 : K.lookup f4 = some ⟨oc4, od4, .func (PySem.W.fnOf "_law_divisor" "_law_divisor" (defArgs (topS 8)) (defBody (topS 8)) (defScope (topS 8)) .none kV4 dc4 pm4 an4 cd4 ct4), sl4⟩) (c4 : PySem.W.codeIn K cd4 "_law_divisor" = true) (k4 : PySem.W.keepIn K (.ref f4) = true)
    {f5 : Addr} {od5 an5 : Option Addr} {sl5 : Array (Option Value)} {oc5 kV5 dc5 pm5 cd5 ct5 : Value} (a5 : PySem.W.nsIn K mainGlobals "_law_lowest" = some (some (.ref f5))) (l5 : K.lookup f5 = some ⟨oc5, od5, .func (PySem.W.fnOf "_law_lowest" "_law_lowest" (defArgs (topS 10)) (defBody (topS 10)) (defScope (topS 10)) .none kV5 dc5 pm5 an5 cd5 ct5), sl5⟩) (c5 : PySem.W.codeIn K cd5 "_law_lowest" = true) (k5 : PySem.W.keepIn K (.ref f5) = true)
    {f6 : Addr} {od6 an6 : Option Addr} {sl6 : Array (Option Value)} {oc6 kV6 dc6 pm6 cd6 ct6 : Value} (a6 : PySem.W.nsIn K mainGlobals "_law_number" = some (some (.ref f6))) (l6 : K.lookup f6 = some ⟨oc6, od6, .func (PySem.W.fnOf "_law_number" "_law_number" (defArgs (topS 9)) (defBody (topS 9)) (defScope (topS 9)) .none kV6 dc6 pm6 an6 cd6 ct6), sl6⟩) (c6 : PySem.W.codeIn K cd6 "_law_number" = true) (k6 : PySem.W.keepIn K (.ref f6) = true)
    {f7 : Addr} {od7 an7 : Option Addr} {sl7 : Array (Option Value)} {oc7 kV7 dc7 pm7 cd7 ct7 : Value} (a7 : PySem.W.nsIn K mainGlobals "_law_fraction" = some (some (.ref f7))) (l7 : K.lookup f7 = some ⟨oc7, od7, .func (PySem.W.fnOf "_law_fraction" "_law_fraction" (defArgs (topS 11)) (defBody (topS 11)) (defScope (topS 11)) .none kV7 dc7 pm7 an7 cd7 ct7), sl7⟩) (c7 : PySem.W.codeIn K cd7 "_law_fraction" = true) (k7 : PySem.W.keepIn K (.ref f7) = true)
    {f8 : Addr} {od8 an8 : Option Addr} {sl8 : Array (Option Value)} {oc8 kV8 dc8 pm8 cd8 ct8 : Value} (a8 : PySem.W.nsIn K mainGlobals "_law_entry" = some (some (.ref f8))) (l8 : K.lookup f8 = some ⟨oc8, od8, .func (PySem.W.fnOf "_law_entry" "_law_entry" (defArgs (topS 17)) (defBody (topS 17)) (defScope (topS 17)) .none kV8 dc8 pm8 an8 cd8 ct8), sl8⟩) (c8 : PySem.W.codeIn K cd8 "_law_entry" = true) (k8 : PySem.W.keepIn K (.ref f8) = true)
    {f9 : Addr} {od9 an9 : Option Addr} {sl9 : Array (Option Value)} {oc9 kV9 dc9 pm9 cd9 ct9 : Value} (a9 : PySem.W.nsIn K mainGlobals "_law_item_text" = some (some (.ref f9))) (l9 : K.lookup f9 = some ⟨oc9, od9, .func (PySem.W.fnOf "_law_item_text" "_law_item_text" (defArgs (topS 14)) (defBody (topS 14)) (defScope (topS 14)) .none kV9 dc9 pm9 an9 cd9 ct9), sl9⟩) (c9 : PySem.W.codeIn K cd9 "_law_item_text" = true) (k9 : PySem.W.keepIn K (.ref f9) = true)
    {f10 : Addr} {od10 an10 : Option Addr} {sl10 : Array (Option Value)} {oc10 kV10 dc10 pm10 cd10 ct10 : Value} (a10 : PySem.W.nsIn K mainGlobals "_law_right" = some (some (.ref f10))) (l10 : K.lookup f10 = some ⟨oc10, od10, .func (PySem.W.fnOf "_law_right" "_law_right" (defArgs (topS 18)) (defBody (topS 18)) (defScope (topS 18)) .none kV10 dc10 pm10 an10 cd10 ct10), sl10⟩) (c10 : PySem.W.codeIn K cd10 "_law_right" = true) (k10 : PySem.W.keepIn K (.ref f10) = true)
    {f11 : Addr} {od11 an11 : Option Addr} {sl11 : Array (Option Value)} {oc11 kV11 dc11 pm11 cd11 ct11 : Value} (a11 : PySem.W.nsIn K mainGlobals "show_fraction" = some (some (.ref f11))) (l11 : K.lookup f11 = some ⟨oc11, od11, .func (PySem.W.fnOf "show_fraction" "show_fraction" (defArgs (topS 1)) (defBody (topS 1)) (defScope (topS 1)) .none kV11 dc11 pm11 an11 cd11 ct11), sl11⟩) (c11 : PySem.W.codeIn K cd11 "show_fraction" = true) (k11 : PySem.W.keepIn K (.ref f11) = true)
    {f12 : Addr} {od12 an12 : Option Addr} {sl12 : Array (Option Value)} {oc12 kV12 dc12 pm12 cd12 ct12 : Value} (a12 : PySem.W.nsIn K mainGlobals "_law_fraction_text" = some (some (.ref f12))) (l12 : K.lookup f12 = some ⟨oc12, od12, .func (PySem.W.fnOf "_law_fraction_text" "_law_fraction_text" (defArgs (topS 15)) (defBody (topS 15)) (defScope (topS 15)) .none kV12 dc12 pm12 an12 cd12 ct12), sl12⟩) (c12 : PySem.W.codeIn K cd12 "_law_fraction_text" = true) (k12 : PySem.W.keepIn K (.ref f12) = true)
    {f13 : Addr} {od13 an13 : Option Addr} {sl13 : Array (Option Value)} {oc13 kV13 dc13 pm13 cd13 ct13 : Value} (a13 : PySem.W.nsIn K mainGlobals "show_item" = some (some (.ref f13))) (l13 : K.lookup f13 = some ⟨oc13, od13, .func (PySem.W.fnOf "show_item" "show_item" (defArgs (topS 2)) (defBody (topS 2)) (defScope (topS 2)) .none kV13 dc13 pm13 an13 cd13 ct13), sl13⟩) (c13 : PySem.W.codeIn K cd13 "show_item" = true) (k13 : PySem.W.keepIn K (.ref f13) = true)
    {f14 : Addr} {od14 an14 : Option Addr} {sl14 : Array (Option Value)} {oc14 kV14 dc14 pm14 cd14 ct14 : Value} (a14 : PySem.W.nsIn K mainGlobals "show_items" = some (some (.ref f14))) (l14 : K.lookup f14 = some ⟨oc14, od14, .func (PySem.W.fnOf "show_items" "show_items" (defArgs (topS 3)) (defBody (topS 3)) (defScope (topS 3)) .none kV14 dc14 pm14 an14 cd14 ct14), sl14⟩) (c14 : PySem.W.codeIn K cd14 "show_items" = true) (k14 : PySem.W.keepIn K (.ref f14) = true)
    {f15 : Addr} {od15 an15 : Option Addr} {sl15 : Array (Option Value)} {oc15 kV15 dc15 pm15 cd15 ct15 : Value} (a15 : PySem.W.nsIn K mainGlobals "show_entry" = some (some (.ref f15))) (l15 : K.lookup f15 = some ⟨oc15, od15, .func (PySem.W.fnOf "show_entry" "show_entry" (defArgs (topS 4)) (defBody (topS 4)) (defScope (topS 4)) .none kV15 dc15 pm15 an15 cd15 ct15), sl15⟩) (c15 : PySem.W.codeIn K cd15 "show_entry" = true) (k15 : PySem.W.keepIn K (.ref f15) = true)
    {f16 : Addr} {od16 an16 : Option Addr} {sl16 : Array (Option Value)} {oc16 kV16 dc16 pm16 cd16 ct16 : Value} (a16 : PySem.W.nsIn K mainGlobals "_law_entry_text" = some (some (.ref f16))) (l16 : K.lookup f16 = some ⟨oc16, od16, .func (PySem.W.fnOf "_law_entry_text" "_law_entry_text" (defArgs (topS 16)) (defBody (topS 16)) (defScope (topS 16)) .none kV16 dc16 pm16 an16 cd16 ct16), sl16⟩) (c16 : PySem.W.codeIn K cd16 "_law_entry_text" = true) (k16 : PySem.W.keepIn K (.ref f16) = true)
    {f17 : Addr} {od17 an17 : Option Addr} {sl17 : Array (Option Value)} {oc17 kV17 dc17 pm17 cd17 ct17 : Value} (a17 : PySem.W.nsIn K mainGlobals "law" = some (some (.ref f17))) (l17 : K.lookup f17 = some ⟨oc17, od17, .func (PySem.W.fnOf "law" "law" (defArgs (topS 19)) (defBody (topS 19)) (defScope (topS 19)) .none kV17 dc17 pm17 an17 cd17 ct17), sl17⟩) (c17 : PySem.W.codeIn K cd17 "law" = true) (k17 : PySem.W.keepIn K (.ref f17) = true)
    (z_abs : PySem.W.nsIn K mainGlobals "abs" = some none)
    (z_any : PySem.W.nsIn K mainGlobals "any" = some none)
    (z_isinstance : PySem.W.nsIn K mainGlobals "isinstance" = some none)
    (z_len : PySem.W.nsIn K mainGlobals "len" = some none)
    (z_max : PySem.W.nsIn K mainGlobals "max" = some none)
    (z_min : PySem.W.nsIn K mainGlobals "min" = some none)
    (z_range : PySem.W.nsIn K mainGlobals "range" = some none)
    (z_str : PySem.W.nsIn K mainGlobals "str" = some none)
    (z_tuple : PySem.W.nsIn K mainGlobals "tuple" = some none)
    : ∃ fd : FuncData, (∀ (s : Shared) (v : Value), BindsTo s fd ⟨[v], []⟩ [("_law_script", v)]) ∧ ∀ base : Heap, K.In base → base.Ns mainGlobals mg → FnOk l.prog w K mg base (L2.CX l.prog w) 5 fa fd ["_law_script"] (spA K f_law) := by
  have t : Tx K mg := ⟨PySem.W.mg_none_of X G z_abs, PySem.W.mg_none_of X G z_any, PySem.W.mg_none_of X G z_isinstance, PySem.W.mg_none_of X G z_len, PySem.W.mg_none_of X G z_max, PySem.W.mg_none_of X G z_min, PySem.W.mg_none_of X G z_range, PySem.W.mg_none_of X G z_str, PySem.W.mg_none_of X G z_tuple⟩
  have W0 : Here K mg "_law_bag" (topS 6) ["_law_script", "_law_at"] := ⟨f0, _, fun_mk l0 c0 k0, PySem.W.mg_of X G a0, (fun_mk l0 c0 k0).binds (ps := ["_law_script", "_law_at"]) fun _ _ _ _ _ _ us hl => match us, hl with | [_, _], _ => rfl⟩
  have W1 : Here K mg "_law_take" (topS 7) ["_law_bag_here", "_law_many"] := ⟨f1, _, fun_mk l1 c1 k1, PySem.W.mg_of X G a1, (fun_mk l1 c1 k1).binds (ps := ["_law_bag_here", "_law_many"]) fun _ _ _ _ _ _ us hl => match us, hl with | [_, _], _ => rfl⟩
  have W2 : Here K mg "_law_name" (topS 12) ["_law_bag_here"] := ⟨f2, _, fun_mk l2 c2 k2, PySem.W.mg_of X G a2, (fun_mk l2 c2 k2).binds (ps := ["_law_bag_here"]) fun _ _ _ _ _ _ us hl => match us, hl with | [_], _ => rfl⟩
  have W3 : Here K mg "_law_item" (topS 13) ["_law_bag_here", "_law_axes"] := ⟨f3, _, fun_mk l3 c3 k3, PySem.W.mg_of X G a3, (fun_mk l3 c3 k3).binds (ps := ["_law_bag_here", "_law_axes"]) fun _ _ _ _ _ _ us hl => match us, hl with | [_, _], _ => rfl⟩
  have W4 : Here K mg "_law_divisor" (topS 8) ["_law_one", "_law_other"] := ⟨f4, _, fun_mk l4 c4 k4, PySem.W.mg_of X G a4, (fun_mk l4 c4 k4).binds (ps := ["_law_one", "_law_other"]) fun _ _ _ _ _ _ us hl => match us, hl with | [_, _], _ => rfl⟩
  have W5 : Here K mg "_law_lowest" (topS 10) ["_law_p", "_law_q"] := ⟨f5, _, fun_mk l5 c5 k5, PySem.W.mg_of X G a5, (fun_mk l5 c5 k5).binds (ps := ["_law_p", "_law_q"]) fun _ _ _ _ _ _ us hl => match us, hl with | [_, _], _ => rfl⟩
  have W6 : Here K mg "_law_number" (topS 9) ["_law_bag_here"] := ⟨f6, _, fun_mk l6 c6 k6, PySem.W.mg_of X G a6, (fun_mk l6 c6 k6).binds (ps := ["_law_bag_here"]) fun _ _ _ _ _ _ us hl => match us, hl with | [_], _ => rfl⟩
  have W7 : Here K mg "_law_fraction" (topS 11) ["_law_bag_here"] := ⟨f7, _, fun_mk l7 c7 k7, PySem.W.mg_of X G a7, (fun_mk l7 c7 k7).binds (ps := ["_law_bag_here"]) fun _ _ _ _ _ _ us hl => match us, hl with | [_], _ => rfl⟩
  have W8 : Here K mg "_law_entry" (topS 17) ["_law_bag_here", "_law_axes"] := ⟨f8, _, fun_mk l8 c8 k8, PySem.W.mg_of X G a8, (fun_mk l8 c8 k8).binds (ps := ["_law_bag_here", "_law_axes"]) fun _ _ _ _ _ _ us hl => match us, hl with | [_, _], _ => rfl⟩
  have W9 : Here K mg "_law_item_text" (topS 14) ["_law_item_here"] := ⟨f9, _, fun_mk l9 c9 k9, PySem.W.mg_of X G a9, (fun_mk l9 c9 k9).binds (ps := ["_law_item_here"]) fun _ _ _ _ _ _ us hl => match us, hl with | [_], _ => rfl⟩
  have W10 : Here K mg "_law_right" (topS 18) ["_law_told", "_law_due"] := ⟨f10, _, fun_mk l10 c10 k10, PySem.W.mg_of X G a10, (fun_mk l10 c10 k10).binds (ps := ["_law_told", "_law_due"]) fun _ _ _ _ _ _ us hl => match us, hl with | [_, _], _ => rfl⟩
  have W11 : Here K mg "show_fraction" (topS 1) ["one"] := ⟨f11, _, fun_mk l11 c11 k11, PySem.W.mg_of X G a11, (fun_mk l11 c11 k11).binds (ps := ["one"]) fun _ _ _ _ _ _ us hl => match us, hl with | [_], _ => rfl⟩
  have W12 : Here K mg "_law_fraction_text" (topS 15) ["_law_one"] := ⟨f12, _, fun_mk l12 c12 k12, PySem.W.mg_of X G a12, (fun_mk l12 c12 k12).binds (ps := ["_law_one"]) fun _ _ _ _ _ _ us hl => match us, hl with | [_], _ => rfl⟩
  have W13 : Here K mg "show_item" (topS 2) ["item"] := ⟨f13, _, fun_mk l13 c13 k13, PySem.W.mg_of X G a13, (fun_mk l13 c13 k13).binds (ps := ["item"]) fun _ _ _ _ _ _ us hl => match us, hl with | [_], _ => rfl⟩
  have W14 : Here K mg "show_items" (topS 3) ["items"] := ⟨f14, _, fun_mk l14 c14 k14, PySem.W.mg_of X G a14, (fun_mk l14 c14 k14).binds (ps := ["items"]) fun _ _ _ _ _ _ us hl => match us, hl with | [_], _ => rfl⟩
  have W15 : Here K mg "show_entry" (topS 4) ["entry"] := ⟨f15, _, fun_mk l15 c15 k15, PySem.W.mg_of X G a15, (fun_mk l15 c15 k15).binds (ps := ["entry"]) fun _ _ _ _ _ _ us hl => match us, hl with | [_], _ => rfl⟩
  have W16 : Here K mg "_law_entry_text" (topS 16) ["_law_entry_here"] := ⟨f16, _, fun_mk l16 c16 k16, PySem.W.mg_of X G a16, (fun_mk l16 c16 k16).binds (ps := ["_law_entry_here"]) fun _ _ _ _ _ _ us hl => match us, hl with | [_], _ => rfl⟩
  have e := hfa.symm.trans (PySem.W.mg_of X G a17)
  cases e
  exact ⟨_, fun s v => .of_eq rfl, fun base _ _ => fnA <| all_ok t (fun_mk l17 c17 k17) W0 W1 W2 W3 W4 W5 W6 W7 W8 W9 W10 W11 W12 W13 W14 W15 W16⟩
end Lw
open PySem PySem.W PyProof.Rows in
theorem PySem.Challenge.cw_glidequeue_k52_items_written_holds : PySem.Challenge.rw_glidequeue_k52_items_written.Holds := by
  w_on; o_law; k_head; (case hw => w_witness2)
  k_fill
  refine L2.walk_of (l := PySem.Challenge.rw_glidequeue_k52_items_written) (n := 63) (k := 5) (x := "_law_script") (CX := fun w => L2.CX PySem.Challenge.rw_glidequeue_k52_items_written.prog w) (sp := fun w => GB.spA _ Lw.f_law) rfl (by decide) rfl ⟨rfl, by decide, by decide⟩ (fun w h Y => PySem.W.kIn_of Y) ?F (fun w H a ns hl _ hS => GB.law_inA hS (Lw.law_true ns hl)) (fun _ _ _ _ _ h => GB.cx_no h)
  case F =>
    intro w mg fa h KX G hmg
    refine' Lw.all_mk KX G hmg ?a0 ?l0 ?c0 ?k0 ?a1 ?l1 ?c1 ?k1 ?a2 ?l2 ?c2 ?k2 ?a3 ?l3 ?c3 ?k3 ?a4 ?l4 ?c4 ?k4 ?a5 ?l5 ?c5 ?k5 ?a6 ?l6 ?c6 ?k6 ?a7 ?l7 ?c7 ?k7 ?a8 ?l8 ?c8 ?k8 ?a9 ?l9 ?c9 ?k9 ?a10 ?l10 ?c10 ?k10 ?a11 ?l11 ?c11 ?k11 ?a12 ?l12 ?c12 ?k12 ?a13 ?l13 ?c13 ?k13 ?a14 ?l14 ?c14 ?k14 ?a15 ?l15 ?c15 ?k15 ?a16 ?l16 ?c16 ?k16 ?a17 ?l17 ?c17 ?k17 ?z_abs ?z_any ?z_isinstance ?z_len ?z_max ?z_min ?z_range ?z_str ?z_tuple
    (case a0 => k_is); (case l0 => k_is); (case c0 => k_is); (case k0 => k_is); (case a1 => k_is); (case l1 => k_is); (case c1 => k_is); (case k1 => k_is); (case a2 => k_is); (case l2 => k_is); (case c2 => k_is); (case k2 => k_is); (case a3 => k_is); (case l3 => k_is); (case c3 => k_is); (case k3 => k_is); (case a4 => k_is); (case l4 => k_is); (case c4 => k_is); (case k4 => k_is); (case a5 => k_is); (case l5 => k_is); (case c5 => k_is); (case k5 => k_is); (case a6 => k_is); (case l6 => k_is); (case c6 => k_is); (case k6 => k_is); (case a7 => k_is); (case l7 => k_is); (case c7 => k_is); (case k7 => k_is); (case a8 => k_is); (case l8 => k_is); (case c8 => k_is); (case k8 => k_is); (case a9 => k_is); (case l9 => k_is); (case c9 => k_is); (case k9 => k_is); (case a10 => k_is); (case l10 => k_is); (case c10 => k_is); (case k10 => k_is); (case a11 => k_is); (case l11 => k_is); (case c11 => k_is); (case k11 => k_is); (case a12 => k_is); (case l12 => k_is); (case c12 => k_is); (case k12 => k_is); (case a13 => k_is); (case l13 => k_is); (case c13 => k_is); (case k13 => k_is); (case a14 => k_is); (case l14 => k_is); (case c14 => k_is); (case k14 => k_is); (case a15 => k_is); (case l15 => k_is); (case c15 => k_is); (case k15 => k_is); (case a16 => k_is); (case l16 => k_is); (case c16 => k_is); (case k16 => k_is); (case a17 => k_is); (case l17 => k_is); (case c17 => k_is); (case k17 => k_is); (case z_abs => k_is); (case z_any => k_is); (case z_isinstance => k_is); (case z_len => k_is); (case z_max => k_is); (case z_min => k_is); (case z_range => k_is); (case z_str => k_is); (case z_tuple => k_is)
