import PyProof.Rows.All
import HandS.ForMost
import HandS.ForExc
import HandS.CallSlots
import HandS.IsInst
import HandS.Wide
import HandS.WideBits
import HandS.Zip
import HandS.TupAny
import HandS.TupMul
import HandS.Style
import HandS.Flow
import HandS.Deep
import HandS.FStr
import HandS.StrMore
import HandS.RaiseMore
import HandS.ExcCtx
import HandS.Lambda
import HandS.NoneIn
import KE.GoesMore
import HandS.Conv
import PyProof.Rows.ListMulArg
import HandS.ExcIs
import HandS.Text
import KE.KNestM
import HandS.Head0
import HandS.Head1
import HandS.Head2
import HandS.EndTab
import HandS.ExcInit
import HandS.ExcField
import HandS.HotCalls
import KE.KExcIs
import PyProof.WalksMore
import KE.KDictZip
import HandS.Small
import PySem.Challenge.RW_glidequeue_k54_texts_of_no_items
set_option Elab.async false
set_option linter.all false
set_option maxRecDepth 100000
set_option maxHeartbeats 4000000
namespace GB
open PySem PySem.Spec PyProof.Rows L2
inductive T where
  | non | bl (b : Bool) | int (i : Int) | str (s : Str) | tup (xs : List T) | lst (xs : List T) | box (n : Nat)
  deriving Inhabited
/-- a class's name, its instances' fields in their order (of a dict: its keys) -/
structure Cn where
  nm : Str
  fl : List Str
  deriving DecidableEq
inductive Cell where
  | lst (xs : List T) | obj (c : Cn) (xs : List T) | dct (c : Cn) (xs : List T) | tbl (q : Str)
abbrev IH := List Cell
structure Ex where
  name : String
  args : List (String × T)
inductive Rs (α : Type) where
  | ok (a : α) (h : IH)
  | exc (x : Ex) (h : IH)
  | no
def Rs.bind {α β : Type} (r : Rs α) (f : α → IH → Rs β) : Rs β :=
  match r with
  | .ok a h => f a h
  | .exc x h => .exc x h
  | .no => .no
abbrev Ev := List (Option T)
abbrev SE := Ev → IH → Rs T
abbrev SA := Ev → IH → Rs (List T)
abbrev SB := Ev → IH → Rs Bool
mutual
inductive Rp (K : PySem.W.Frag) (G : Hp) (R : List Addr) : T → V → Prop
  | non : Rp K G R .non .non
  | bl (b : Bool) : Rp K G R (.bl b) (.bl b)
  | int (i : Int) : Rp K G R (.int i) (.int i)
  | str (s : Str) : Rp K G R (.str s) (.str s)
  | tup {a : Addr} {xs : List V} {ts : List T} : SqT K G a xs → RpL K G R ts xs → Rp K G R (.tup ts) (.ref a)
  | lst {a : Addr} {xs : List V} {ts : List T} : SqL K G a xs → RpL K G R ts xs → Rp K G R (.lst ts) (.ref a)
  | box {a : Addr} {n : Nat} : R[n]? = some a → Rp K G R (.box n) (.ref a)
inductive RpL (K : PySem.W.Frag) (G : Hp) (R : List Addr) : List T → List V → Prop
  | nil : RpL K G R [] []
  | cons {t : T} {v : V} {ts : List T} {vs : List V} : Rp K G R t v → RpL K G R ts vs → RpL K G R (t :: ts) (v :: vs)
end
theorem same_trans {A B C : Hp} (a : Same A B) (b : Same B C) : Same A C := fun x o e => b x o (a x o e)
theorem same_sqT {K : PySem.W.Frag} {G G' : Hp} {a : Addr} {xs : List V} (s : Same G G') (h : SqT K G a xs) : SqT K G' a xs := by
  rcases h with (h | ⟨o, h⟩) | h
  · exact .inl (.inl (s _ _ h))
  · exact .inl (.inr ⟨o, s _ _ h⟩)
  · exact .inr h
theorem same_sqL {K : PySem.W.Frag} {G G' : Hp} {a : Addr} {xs : List V} (s : Same G G') (h : SqL K G a xs) : SqL K G' a xs := by
  rcases h with (h | ⟨o, h⟩) | h
  · exact .inl (.inl (s _ _ h))
  · exact .inl (.inr ⟨o, s _ _ h⟩)
  · exact .inr h
theorem pre_get {R R' : List Addr} (p : R <+: R') {n : Nat} {a : Addr} (h : R[n]? = some a) : R'[n]? = some a := by
  obtain ⟨r, rfl⟩ := p
  have hl : n < R.length := (List.getElem?_eq_some_iff.mp h).1
  rw [List.getElem?_append_left hl]; exact h
mutual
theorem Rp.mono {K : PySem.W.Frag} {G G' : Hp} {R R' : List Addr} (s : Same G G') (p : R <+: R') : ∀ {t : T} {v : V}, Rp K G R t v → Rp K G' R' t v
  | _, _, .non => .non
  | _, _, .bl b => .bl b
  | _, _, .int i => .int i
  | _, _, .str x => .str x
  | _, _, .tup h k => .tup (same_sqT s h) (RpL.mono s p k)
  | _, _, .lst h k => .lst (same_sqL s h) (RpL.mono s p k)
  | _, _, .box h => .box (pre_get p h)
theorem RpL.mono {K : PySem.W.Frag} {G G' : Hp} {R R' : List Addr} (s : Same G G') (p : R <+: R') : ∀ {ts : List T} {vs : List V}, RpL K G R ts vs → RpL K G' R' ts vs
  | _, _, .nil => .nil
  | _, _, .cons h k => .cons (Rp.mono s p h) (RpL.mono s p k)
end
section
variable {K : PySem.W.Frag} {G : Hp} {R : List Addr}
theorem RpL.len : ∀ {ts : List T} {vs : List V}, RpL K G R ts vs → ts.length = vs.length
  | _, _, .nil => rfl
  | _, _, .cons _ k => by rw [List.length_cons, List.length_cons, RpL.len k]
theorem RpL.get : ∀ {ts : List T} {vs : List V} {i : Nat} {t : T}, RpL K G R ts vs → ts[i]? = some t → ∃ v, vs[i]? = some v ∧ Rp K G R t v
  | _, _, _, _, .nil, e => by simp at e
  | _, _, 0, _, .cons h _, e => by simp at e; subst e; exact ⟨_, rfl, h⟩
  | _, _, i + 1, t, .cons _ k, e => by
    obtain ⟨v, h1, h2⟩ := RpL.get (i := i) (t := t) k (by simpa using e)
    exact ⟨v, by simpa using h1, h2⟩
theorem RpL.append : ∀ {ts us : List T} {vs ws : List V}, RpL K G R ts vs → RpL K G R us ws → RpL K G R (ts ++ us) (vs ++ ws)
  | _, _, _, _, .nil, k => k
  | _, _, _, _, .cons h k, k' => .cons h (RpL.append k k')
theorem RpL.take : ∀ {ts : List T} {vs : List V} (n : Nat), RpL K G R ts vs → RpL K G R (ts.take n) (vs.take n)
  | _, _, 0, _ => by simp only [List.take_zero]; exact .nil
  | _, _, n + 1, .nil => by simp only [List.take_nil]; exact .nil
  | _, _, n + 1, .cons h k => by simp only [List.take_succ_cons]; exact .cons h (RpL.take n k)
theorem RpL.drop : ∀ {ts : List T} {vs : List V} (n : Nat), RpL K G R ts vs → RpL K G R (ts.drop n) (vs.drop n)
  | _, _, 0, h => h
  | _, _, n + 1, .nil => by simp only [List.drop_nil]; exact .nil
  | _, _, n + 1, .cons _ k => by simp only [List.drop_succ_cons]; exact RpL.drop n k
theorem RpL.set : ∀ {ts : List T} {vs : List V} {t : T} {v : V} (i : Nat), Rp K G R t v → RpL K G R ts vs → RpL K G R (ts.set i t) (vs.set i v)
  | _, _, _, _, _, _, .nil => by simp only [List.set_nil]; exact .nil
  | _, _, _, _, 0, h, .cons _ k => by simp only [List.set_cons_zero]; exact .cons h k
  | _, _, _, _, i + 1, h, .cons h' k => by simp only [List.set_cons_succ]; exact .cons h' (RpL.set i h k)
theorem RpL.reverse : ∀ {ts : List T} {vs : List V}, RpL K G R ts vs → RpL K G R ts.reverse vs.reverse
  | _, _, .nil => by simp only [List.reverse_nil]; exact .nil
  | _, _, .cons h k => by simp only [List.reverse_cons]; exact RpL.append (RpL.reverse k) (.cons h .nil)
end
/-- what a lambda of the def x is called -/
def lamQ (x : Str) : Str := x ++ ".<locals>." ++ "<lambda>"
/-- where the def x keeps its code objects, as the written part tells -/
def tabAt (K : PySem.W.Frag) (x : Str) : Addr :=
  match PySem.W.nsIn K mainGlobals x with
  | some (some (.ref f)) => (match K.lookup f with
    | some ⟨_, _, .func fd, _⟩ => (match fd.code with
      | .ref c => (match K.lookup c with
        | some ⟨_, _, .fields vs, _⟩ => (match vs.getD 11 .none with
          | .ref P => P
          | _ => 0)
        | _ => 0)
      | _ => 0)
    | _ => 0)
  | _ => 0
def CellOk (K : PySem.W.Frag) (G : Hp) (R : List Addr) (H : Hp) (a : Addr) : Cell → Prop
  | .lst ts => ∃ xs, H a = some (.lst xs) ∧ RpL K G R ts xs
  | .obj c ts => ∃ C dx fs, PySem.W.nsIn K mainGlobals c.nm = some (some (.ref C)) ∧ H a = some (.ins C dx fs) ∧ fs.map (·.1) = c.fl.take ts.length ∧ RpL K G R ts (fs.map (·.2))
  | .dct c ts => ∃ fs, H a = some (.dK fs) ∧ fs.map (·.1) = (c.fl.take ts.length).map Sum.inr ∧ RpL K G R ts (fs.map (·.2))
  | .tbl q => a = tabAt K q ∧ ∃ ps : Array Value, H a = some (.tbl ps) ∧ TriplesOk ps.toList ∧ ∀ (pos : Pos) (cv : Value), codeAmong pos ps.toList = some cv → ∃ c, cv = .ref c ∧ G c = some (LamX.CodeO c (lamQ q))
theorem CellOk.mono {K : PySem.W.Frag} {G G' : Hp} {R R' : List Addr} {H H' : Hp} {a : Addr} (s : Same G G') (p : R <+: R') (k : ∀ o, H a = some o → H' a = some o) : ∀ {c : Cell}, CellOk K G R H a c → CellOk K G' R' H' a c
  | .lst _, ⟨xs, h1, h2⟩ => ⟨xs, k _ h1, h2.mono s p⟩
  | .obj _ _, ⟨C, dx, fs, h0, h1, h2, h3⟩ => ⟨C, dx, fs, h0, k _ h1, h2, h3.mono s p⟩
  | .dct _ _, ⟨fs, h1, h2, h3⟩ => ⟨fs, k _ h1, h2, h3.mono s p⟩
  | .tbl _, ⟨h0, ps, h1, h2, h3⟩ => ⟨h0, ps, k _ h1, h2, fun pos cv e => let ⟨c, e1, e2⟩ := h3 pos cv e; ⟨c, e1, s _ _ e2⟩⟩
theorem CellOk.there {K : PySem.W.Frag} {G : Hp} {R : List Addr} {H : Hp} {a : Addr} : ∀ {c : Cell}, CellOk K G R H a c → ∃ o, H a = some o
  | .lst _, ⟨_, h1, _⟩ => ⟨_, h1⟩
  | .obj _ _, ⟨_, _, _, _, h1, _⟩ => ⟨_, h1⟩
  | .dct _ _, ⟨_, h1, _⟩ => ⟨_, h1⟩
  | .tbl _, ⟨_, _, h1, _⟩ => ⟨_, h1⟩
structure Gd (K : PySem.W.Frag) (G : Hp) (R : List Addr) (H : Hp) (h : IH) : Prop where
  same : Same G H
  off : ∀ a ∈ R, G a = none
  nd : R.Nodup
  len : R.length = h.length
  cell : ∀ (n : Nat) (a : Addr) (c : Cell), R[n]? = some a → h[n]? = some c → CellOk K G R H a c
structure Ext (G : Hp) (R : List Addr) (H : Hp) (G' : Hp) (R' : List Addr) (H' : Hp) : Prop where
  same : Same G G'
  pre : R <+: R'
  kept : ∀ b o, H b = some o → b ∉ R → H' b = some o
  gnew : ∀ b, G b = none → G' b ≠ none → H b = none
  rnew : ∀ b ∈ R', b ∈ R ∨ H b = none
section
variable {K : PySem.W.Frag} {G G' G2 : Hp} {R R' R2 : List Addr} {H H' H2 : Hp} {h h' : IH} {a : Addr}
theorem Gd.there (g : Gd K G R H h) (ha : a ∈ R) : H a ≠ none := by
  obtain ⟨n, e⟩ := List.getElem?_of_mem ha
  have hn : n < R.length := (List.getElem?_eq_some_iff.mp e).1
  have hm : n < h.length := by rw [← g.len]; exact hn
  obtain ⟨c, hc⟩ : ∃ c, h[n]? = some c := ⟨_, List.getElem?_eq_getElem hm⟩
  obtain ⟨o, q⟩ := (g.cell n a c e hc).there
  rw [q]; exact fun z => nomatch z
theorem Ext.refl : Ext G R H G R H := ⟨fun _ _ e => e, List.prefix_refl _, fun _ _ e _ => e, fun _ n z => absurd n z, fun _ m => .inl m⟩
theorem Ext.trans (g : Gd K G R H h) (g2 : Gd K G2 R2 H2 h') (a : Ext G R H G' R' H') (b : Ext G' R' H' G2 R2 H2) : Ext G R H G2 R2 H2 where
  same := same_trans a.same b.same
  pre := a.pre.trans b.pre
  kept := fun x o e n => b.kept x o (a.kept x o e n) fun m => (a.rnew x m).elim n fun z => by rw [e] at z; cases z
  gnew := fun x n z => by
    by_cases q : G' x = none
    · have h1 := b.gnew x q z
      cases e : H x with
      | none => rfl
      | some o =>
        by_cases m : x ∈ R
        · have m2 : x ∈ R2 := b.pre.subset (a.pre.subset m)
          exact absurd (g2.off x m2) z
        · have h2 := a.kept x o e m
          rw [h1] at h2; cases h2
    · exact a.gnew x n q
  rnew := fun x m => by
    rcases b.rnew x m with m | n
    · exact a.rnew x m
    · by_cases q : x ∈ R
      · exact .inl q
      · right
        cases e : H x with
        | none => rfl
        | some o =>
          have h2 := a.kept x o e q
          rw [n] at h2; cases h2
/-- what was free behind was free ahead -/
theorem Ext.free (g : Gd K G' R' H' h') (e : Ext G R H G' R' H') {b : Addr} (n : H' b = none) : H b = none := by
  cases q : H b with
  | none => rfl
  | some o =>
    by_cases m : b ∈ R
    · exact absurd n (g.there (e.pre.subset m))
    · have h2 := e.kept b o q m
      rw [n] at h2; cases h2
theorem Ext.rp (e : Ext G R H G' R' H') {t : T} {v : V} (r : Rp K G R t v) : Rp K G' R' t v := r.mono e.same e.pre
theorem Ext.rpl (e : Ext G R H G' R' H') {ts : List T} {vs : List V} (r : RpL K G R ts vs) : RpL K G' R' ts vs := r.mono e.same e.pre
end
inductive Kd where
  | fz | own | any
/-- a list that may be read: in the ground, or a list that stands by itself -/
def Live (K : PySem.W.Frag) (G : Hp) (R : List Addr) (H : Hp) (t : T) (v : V) : Prop :=
  Rp K G R t v ∨ ∃ ts a xs, t = .lst ts ∧ v = .ref a ∧ H a = some (.lst xs) ∧ a ∉ R ∧ RpL K G R ts xs
def Res (K : PySem.W.Frag) (kd : Kd) (H₀ : Hp) (t : T) (v : V) (G : Hp) (R : List Addr) (H : Hp) : Prop :=
  match kd with
  | .fz => Rp K G R t v
  | .own => ∃ ts a xs, t = .lst ts ∧ v = .ref a ∧ H a = some (.lst xs) ∧ a ∉ R ∧ G a = none ∧ H₀ a = none ∧ RpL K G R ts xs
  | .any => Live K G R H t v
/-- an exception's class and fields -/
def XR (K : PySem.W.Frag) (mg : Str → Option Value) (x : Ex) (c : Value) (d : Option Addr) (G : Hp) (R : List Addr) (H : Hp) : Prop :=
  ∃ C : Addr, mg (Str.ofString x.name) = some (.ref C) ∧ c = .ref C ∧
    match x.args with
    | [] => d = none
    | l => ∃ dd fs, d = some dd ∧ H dd = some (.xd fs) ∧ dd ∉ R ∧ fs.map (·.1) = l.map (fun p => Str.ofString p.1) ∧ RpL K G R (l.map (·.2)) (fs.map (·.2))
/-- the slots: those of lin hold lists of their own -/
structure Fr (K : PySem.W.Frag) (lin : List Nat) (G : Hp) (R : List Addr) (H : Hp) (τ : Ev) (σ : L2.St) (N0 : Addr → Prop) : Prop where
  slot : ∀ i t, τ[i]? = some (some t) → i ∉ lin → ∃ v, σ[i]? = some (some v) ∧ Rp K G R t v
  own : ∀ i t, τ[i]? = some (some t) → i ∈ lin → ∃ ts a xs, t = .lst ts ∧ σ[i]? = some (some (.ref a)) ∧ H a = some (.lst xs) ∧ G a = none ∧ a ∉ R ∧ N0 a ∧ RpL K G R ts xs
  apart : ∀ i j t u a, τ[i]? = some (some t) → τ[j]? = some (some u) → i ∈ lin → j ∈ lin → σ[i]? = some (some (.ref a)) → σ[j]? = some (some (.ref a)) → i = j
  len : τ.length = σ.length
theorem Fr.ext {K : PySem.W.Frag} {lin : List Nat} {G G' : Hp} {R R' : List Addr} {H H' : Hp} {τ : Ev} {σ : L2.St} {N0 : Addr → Prop} (f : Fr K lin G R H τ σ N0) (e : Ext G R H G' R' H') : Fr K lin G' R' H' τ σ N0 where
  slot := fun i t h n => let ⟨v, h1, h2⟩ := f.slot i t h n; ⟨v, h1, e.rp h2⟩
  own := fun i t h m => by
    obtain ⟨ts, a, xs, h1, h2, h3, h4, h5, h6, h7⟩ := f.own i t h m
    refine ⟨ts, a, xs, h1, h2, e.kept a _ h3 h5, ?_, fun m => ?_, h6, e.rpl h7⟩
    · cases q : G' a with
      | none => rfl
      | some o =>
        have z := e.gnew a h4 (by rw [q]; exact fun z => nomatch z)
        rw [h3] at z; cases z
    · rcases e.rnew a m with m | n
      · exact h5 m
      · rw [h3] at n; cases n
  apart := f.apart
  len := f.len
/-- an outcome behind (G, R, H) -/
def Out {α : Type} (K : PySem.W.Frag) (mg : Str → Option Value) (E : XK) (G : Hp) (R : List Addr) (H : Hp) (r : Rs α) (P : α → Hp → List Addr → Hp → Prop) : Prop :=
  match r with
  | .ok t h' => ∀ G' R' H', Gd K G' R' H' h' → Ext G R H G' R' H' → P t G' R' H'
  | .exc x h' => ∀ G' R' H' c d, Gd K G' R' H' h' → Ext G R H G' R' H' → XR K mg x c d G' R' H' → E c d H'
  | .no => False
section
variable {K : PySem.W.Frag} {mg : Str → Option Value} {E : XK} {G G1 : Hp} {R R1 : List Addr} {H H1 : Hp} {h h1 : IH} {α : Type} {r : Rs α} {P : α → Hp → List Addr → Hp → Prop}
theorem Out.on (g : Gd K G R H h) (e : Ext G R H G1 R1 H1) (o : Out K mg E G R H r P) : Out K mg E G1 R1 H1 r P := by
  cases r with
  | ok t h' => exact fun G' R' H' g' e' => o G' R' H' g' (e.trans g g' e')
  | exc x h' => exact fun G' R' H' c d g' e' => o G' R' H' c d g' (e.trans g g' e')
  | no => exact o
end
def lE (K : PySem.W.Frag) (mg : Str → Option Value) (E : WX) (lin : List Nat) (kd : Kd) (f : SE) : TE := fun σ H Q =>
  ∃ G R τ h N0, Gd K G R H h ∧ Fr K lin G R H τ σ N0 ∧ Out K mg (fun c d H' => E c d σ H') G R H (f τ h) fun t G' R' H' => ∀ v, Res K kd H t v G' R' H' → Q v H'
def lA (K : PySem.W.Frag) (mg : Str → Option Value) (E : WX) (lin : List Nat) (f : SA) : TA := fun σ H Q =>
  ∃ G R τ h N0, Gd K G R H h ∧ Fr K lin G R H τ σ N0 ∧ Out K mg (fun c d H' => E c d σ H') G R H (f τ h) fun ts G' R' H' => ∀ vs, RpL K G' R' ts vs → Q vs H'
def lB (K : PySem.W.Frag) (mg : Str → Option Value) (E : WX) (lin : List Nat) (f : SB) : TT := fun σ H Q =>
  ∃ G R τ h N0, Gd K G R H h ∧ Fr K lin G R H τ σ N0 ∧ Out K mg (fun c d H' => E c d σ H') G R H (f τ h) fun b G' R' H' => Q b H'
/-- an expression -/
def PEB (X : Cx) (E : WX) (lin : List Nat) (kd : Kd) (e : Expr) (f : SE) : Prop := PE X e (lE X.K X.mg E lin kd f)
/-- arguments (in the ground) -/
def PAB (X : Cx) (E : WX) (lin : List Nat) (es : List Expr) (f : SA) : Prop := PA X es (lA X.K X.mg E lin f)
/-- a test -/
def PTB (X : Cx) (E : WX) (lin : List Nat) (e : Expr) (f : SB) : Prop := PT X e (lB X.K X.mg E lin f)
theorem impE {X : Cx} {e : Expr} {t t' : TE} (h : PE X e t) (w : ∀ σ H Q, t' σ H Q → t σ H Q) : PE X e t' := ⟨fun pins s σ H Q I q => h.run pins s σ H Q I (w σ H Q q)⟩
theorem impT {X : Cx} {e : Expr} {t t' : TT} (h : PT X e t) (w : ∀ σ H Q, t' σ H Q → t σ H Q) : PT X e t' := ⟨fun pins s σ H Q I q => h.run pins s σ H Q I (w σ H Q q)⟩
theorem impA {X : Cx} {e : List Expr} {t t' : TA} (h : PA X e t) (w : ∀ σ H Q, t' σ H Q → t σ H Q) : PA X e t' := ⟨fun pos pins s σ H Q I q => h.run pos pins s σ H Q I (w σ H Q q)⟩
theorem impS {X : Cx} {e : Stmt} {t t' : TS} (h : PS X e t) (w : ∀ D σ H, t' D σ H → t D σ H) : PS X e t' := ⟨fun pins s σ H D I q => h.run pins s σ H D I (w D σ H q)⟩
theorem impSs {X : Cx} {e : List Stmt} {t t' : TS} (h : PSs X e t) (w : ∀ D σ H, t' D σ H → t D σ H) : PSs X e t' := ⟨fun pins s σ H D I q => h.run pins s σ H D I (w D σ H q)⟩
section
variable {K : PySem.W.Frag} {mg : Str → Option Value} {E : WX} {lin : List Nat} {kd : Kd} {G : Hp} {R : List Addr} {H : Hp} {h : IH} {τ : Ev} {σ : L2.St} {N0 : Addr → Prop} {α : Type} {P : α → Hp → List Addr → Hp → Prop}
/-- one part, then the rest -/
theorem lE.then {f : SE} {k : T → IH → Rs α} {Q : VK} (g : Gd K G R H h) (fr : Fr K lin G R H τ σ N0) (o : Out K mg (fun c d H' => E c d σ H') G R H ((f τ h).bind k) P)
    (hq : ∀ t v h1 G1 R1 H1, Gd K G1 R1 H1 h1 → Ext G R H G1 R1 H1 → Fr K lin G1 R1 H1 τ σ N0 → Res K kd H t v G1 R1 H1 → Out K mg (fun c d H' => E c d σ H') G1 R1 H1 (k t h1) P → Q v H1) : lE K mg E lin kd f σ H Q := by
  refine ⟨G, R, τ, h, N0, g, fr, ?_⟩
  cases e : f τ h with
  | ok t h1 =>
    rw [e] at o
    exact fun G1 R1 H1 g1 e1 v r => hq t v h1 G1 R1 H1 g1 e1 (fr.ext e1) r (Out.on (h := h) g e1 o)
  | exc x h1 => rw [e] at o; exact o
  | no => rw [e] at o; exact o
theorem lA.then {f : SA} {k : List T → IH → Rs α} {Q : List V → Hp → Prop} (g : Gd K G R H h) (fr : Fr K lin G R H τ σ N0) (o : Out K mg (fun c d H' => E c d σ H') G R H ((f τ h).bind k) P)
    (hq : ∀ ts vs h1 G1 R1 H1, Gd K G1 R1 H1 h1 → Ext G R H G1 R1 H1 → Fr K lin G1 R1 H1 τ σ N0 → RpL K G1 R1 ts vs → Out K mg (fun c d H' => E c d σ H') G1 R1 H1 (k ts h1) P → Q vs H1) : lA K mg E lin f σ H Q := by
  refine ⟨G, R, τ, h, N0, g, fr, ?_⟩
  cases e : f τ h with
  | ok t h1 =>
    rw [e] at o
    exact fun G1 R1 H1 g1 e1 v r => hq t v h1 G1 R1 H1 g1 e1 (fr.ext e1) r (Out.on (h := h) g e1 o)
  | exc x h1 => rw [e] at o; exact o
  | no => rw [e] at o; exact o
theorem lB.then {f : SB} {k : Bool → IH → Rs α} {Q : Bool → Hp → Prop} (g : Gd K G R H h) (fr : Fr K lin G R H τ σ N0) (o : Out K mg (fun c d H' => E c d σ H') G R H ((f τ h).bind k) P)
    (hq : ∀ b h1 G1 R1 H1, Gd K G1 R1 H1 h1 → Ext G R H G1 R1 H1 → Fr K lin G1 R1 H1 τ σ N0 → Out K mg (fun c d H' => E c d σ H') G1 R1 H1 (k b h1) P → Q b H1) : lB K mg E lin f σ H Q := by
  refine ⟨G, R, τ, h, N0, g, fr, ?_⟩
  cases e : f τ h with
  | ok t h1 =>
    rw [e] at o
    exact fun G1 R1 H1 g1 e1 => hq t h1 G1 R1 H1 g1 e1 (fr.ext e1) (Out.on (h := h) g e1 o)
  | exc x h1 => rw [e] at o; exact o
  | no => rw [e] at o; exact o
end
end GB
namespace GB
open PySem PySem.Spec PyProof.Rows L2
section
variable {K : PySem.W.Frag} {G G' : Hp} {R R' : List Addr} {H H' H₀ : Hp} {h h' : IH} {kd : Kd} {t : T} {v : V}
theorem Res.live (r : Res K kd H₀ t v G R H) : Live K G R H t v := by
  cases kd with
  | fz => exact .inl r
  | own =>
    obtain ⟨ts, a, xs, h1, h2, h3, h4, _, _, h5⟩ := r
    exact .inr ⟨ts, a, xs, h1, h2, h3, h4, h5⟩
  | any => exact r
theorem Live.ext (e : Ext G R H G' R' H') (r : Live K G R H t v) : Live K G' R' H' t v := by
  rcases r with r | ⟨ts, a, xs, h1, h2, h3, h4, h5⟩
  · exact .inl (e.rp r)
  · refine .inr ⟨ts, a, xs, h1, h2, e.kept a _ h3 h4, fun m => ?_, e.rpl h5⟩
    rcases e.rnew a m with m | n
    · exact h4 m
    · rw [h3] at n; cases n
/-- fresh behind a step is fresh ahead of it -/
theorem Res.back (g : Gd K G R H h) (e : Ext G₀ R₀ H₀ G R H) {G' : Hp} {R' : List Addr} {H' : Hp} (r : Res K kd H t v G' R' H') : Res K kd H₀ t v G' R' H' := by
  cases kd with
  | fz => exact r
  | any => exact r
  | own =>
    obtain ⟨ts, a, xs, h1, h2, h3, h4, h5, h6, h7⟩ := r
    exact ⟨ts, a, xs, h1, h2, h3, h4, h5, e.free g h6, h7⟩
end
def Rs.of {α : Type} (o : Option α) (h : IH) : Rs α :=
  match o with
  | some a => .ok a h
  | none => .no
/-- the items of a list (a tree's, a box's), of a tuple -/
def asL (h : IH) : T → Option (List T)
  | .lst ts => some ts
  | .box n => match h[n]? with
    | some (.lst ts) => some ts
    | _ => none
  | _ => none
def asT : T → Option (List T)
  | .tup ts => some ts
  | _ => none
section
variable {K : PySem.W.Frag} {G G' : Hp} {R R' : List Addr} {H H' H₀ : Hp} {h h' : IH} {t : T} {ts : List T} {v : V}
theorem Gd.sqT (g : Gd K G R H h) {a : Addr} {xs : List V} (q : SqT K G a xs) : SqT K H a xs := same_sqT g.same q
theorem Gd.sqL (g : Gd K G R H h) {a : Addr} {xs : List V} (q : SqL K G a xs) : SqL K H a xs := same_sqL g.same q
theorem Live.asL (g : Gd K G R H h) (r : Live K G R H t v) (e : asL h t = some ts) : ∃ a xs, v = .ref a ∧ SqL K H a xs ∧ RpL K G R ts xs := by
  rcases r with r | ⟨us, a, xs, h1, h2, h3, h4, h5⟩
  · cases r with
    | lst q k =>
      cases e
      exact ⟨_, _, rfl, g.sqL q, k⟩
    | @box a n q =>
      have e' : (match h[n]? with | some (.lst us) => some us | _ => none) = some ts := e
      split at e'
      · rename_i us eq
        cases e'
        obtain ⟨xs, h1, h2⟩ := g.cell n a _ q eq
        exact ⟨a, xs, rfl, SqL.of h1, h2⟩
      · cases e'
    | _ => cases e
  · subst h1
    cases e
    exact ⟨a, xs, h2, SqL.of h3, h5⟩
theorem Live.asT (g : Gd K G R H h) (r : Live K G R H t v) (e : asT t = some ts) : ∃ a xs, v = .ref a ∧ SqT K G a xs ∧ RpL K G R ts xs := by
  rcases r with r | ⟨us, a, xs, h1, _⟩
  · cases r with
    | tup q k =>
      cases e
      exact ⟨_, _, rfl, q, k⟩
    | _ => cases e
  · subst h1
    cases e
theorem Live.int {i : Int} (r : Live K G R H (.int i) v) : v = .int i := by
  rcases r with r | ⟨_, _, _, h1, _⟩
  · cases r; rfl
  · cases h1
theorem Live.str {i : Str} (r : Live K G R H (.str i) v) : v = .str i := by
  rcases r with r | ⟨_, _, _, h1, _⟩
  · cases r; rfl
  · cases h1
theorem Live.bl {i : Bool} (r : Live K G R H (.bl i) v) : v = .bl i := by
  rcases r with r | ⟨_, _, _, h1, _⟩
  · cases r; rfl
  · cases h1
theorem Live.non (r : Live K G R H .non v) : v = .non := by
  rcases r with r | ⟨_, _, _, h1, _⟩
  · cases r; rfl
  · cases h1
/-- a new object: laid into the ground -/
theorem Gd.newG (g : Gd K G R H h) {p : Addr} {o : HO} (n : H p = none) : Gd K (upd G p o) R (upd H p o) h ∧ Ext G R H (upd G p o) R (upd H p o) := by
  have nG : G p = none := by
    cases q : G p with
    | none => rfl
    | some u => rw [g.same _ _ q] at n; cases n
  have sG : Same G (upd G p o) := fun b u e => by rw [upd_ne (ne_of_none e nG)]; exact e
  have hk : ∀ b u, H b = some u → b ∉ R → upd H p o b = some u := fun b u e _ => by rw [upd_ne (ne_of_none e n)]; exact e
  refine ⟨⟨fun b u e => ?_, fun a m => ?_, g.nd, g.len, fun i a c e1 e2 => ?_⟩, ⟨sG, List.prefix_refl _, hk, fun b nb z => ?_, fun b m => .inl m⟩⟩
  · by_cases q : b = p
    · subst q; rw [upd_same] at e ⊢; exact e
    · rw [upd_ne q] at e ⊢; exact g.same _ _ e
  · have na : a ≠ p := fun z => by subst z; exact g.there m n
    rw [upd_ne na]; exact g.off a m
  · exact (g.cell i a c e1 e2).mono sG (List.prefix_refl _) fun o h1 => by rw [upd_ne (ne_of_none h1 n)]; exact h1
  · by_cases q : b = p
    · subst q; exact n
    · rw [upd_ne q, nb] at z; exact absurd rfl z
/-- a new object that stands by itself -/
theorem Gd.newO (g : Gd K G R H h) {p : Addr} {o : HO} (n : H p = none) : Gd K G R (upd H p o) h ∧ Ext G R H G R (upd H p o) ∧ G p = none ∧ p ∉ R := by
  have nG : G p = none := by
    cases q : G p with
    | none => rfl
    | some u => rw [g.same _ _ q] at n; cases n
  refine ⟨⟨fun b u e => by rw [upd_ne (ne_of_none e nG)]; exact g.same _ _ e, g.off, g.nd, g.len, fun i a c e1 e2 => ?_⟩, ⟨fun _ _ e => e, List.prefix_refl _, fun b u e _ => by rw [upd_ne (ne_of_none e n)]; exact e, fun b nb z => absurd nb z, fun b m => .inl m⟩, nG, fun m => g.there m n⟩
  exact (g.cell i a c e1 e2).mono (fun _ _ e => e) (List.prefix_refl _) fun o h1 => by rw [upd_ne (ne_of_none h1 n)]; exact h1
end
def eC (t : T) : SE := fun _ h => .ok t h
def eV (i : Nat) : SE := fun τ h =>
  match τ[i]? with
  | some (some t) => .ok t h
  | _ => .no
section
variable {X : Cx} {E : WX} {lin : List Nat} {kd k1 k2 : Kd} {e a b c : Expr} {fa fb fc : SE} {pos : Pos}
theorem pb_const {t : T} {v : V} (h : PE X e (tC v)) (r : ∀ G R, Rp X.K G R t v) : PEB X E lin .fz e (eC t) := impE h fun σ H Q ⟨G, R, τ, h, N0, g, fr, o⟩ => o G R H g .refl v (r G R)
theorem pb_int {i j} : PEB X E lin .fz (.Constant (.int i) j pos) (eC (.int i)) := pb_const pe_int fun _ _ => .int i
theorem pb_bl {i j} : PEB X E lin .fz (.Constant (.bool i) j pos) (eC (.bl i)) := pb_const pe_bl fun _ _ => .bl i
theorem pb_str {i j} : PEB X E lin .fz (.Constant (.str i) j pos) (eC (.str i)) := pb_const pe_str fun _ _ => .str i
theorem pb_non {j} : PEB X E lin .fz (.Constant .none j pos) (eC .non) := pb_const pe_non fun _ _ => .non
theorem pb_glob {x : Str} {t : T} {v : V} {u : Value} (hg : Gl X x) (hm : X.mg x = some u) (r : RelV v u) (q : ∀ G R, Rp X.K G R t v) (hd : (x == ("__debug__" : Str)) = false := by decide) : PEB X E lin .fz (.Name x pos) (eC t) := pb_const (pe_glob hg hm r hd) q
theorem pb_v (i : Nat) {x : Str} (hl : lin.contains i = false) (hN : X.N[i]? = some x := by rfl) (hv : Vis X.env.scope x := by first | exact Or.inl rfl | exact Or.inr (Or.inl rfl) | exact Or.inr (Or.inr rfl)) (hd : (x == ("__debug__" : Str)) = false := by decide)
    (hcd : (x == ("__classdict__" : Str)) = false := by decide) : PEB X E lin .fz (.Name x pos) (eV i) := impE (pe_var hN hv hd hcd) fun σ H Q ⟨G, R, τ, h, N0, g, fr, o⟩ => by
  unfold eV at o
  split at o
  · rename_i t e
    have nl : i ∉ lin := fun m => by rw [List.contains_iff_mem.mpr m] at hl; cases hl
    obtain ⟨v, h1, h2⟩ := fr.slot i t e nl
    exact ⟨v, h1, o G R H g .refl v h2⟩
  · exact o.elim
/-- a list of the def's own, read -/
theorem pb_vl (i : Nat) {x : Str} (hl : lin.contains i = true) (hN : X.N[i]? = some x := by rfl) (hv : Vis X.env.scope x := by first | exact Or.inl rfl | exact Or.inr (Or.inl rfl) | exact Or.inr (Or.inr rfl)) (hd : (x == ("__debug__" : Str)) = false := by decide)
    (hcd : (x == ("__classdict__" : Str)) = false := by decide) : PEB X E lin .any (.Name x pos) (eV i) := impE (pe_var hN hv hd hcd) fun σ H Q ⟨G, R, τ, h, N0, g, fr, o⟩ => by
  unfold eV at o
  split at o
  · rename_i t e
    obtain ⟨ts, a, xs, h1, h2, h3, _, h5, _, h7⟩ := fr.own i t e (List.contains_iff_mem.mp hl)
    exact ⟨_, h2, o G R H g .refl _ (.inr ⟨ts, a, xs, h1, rfl, h3, h5, h7⟩)⟩
  · exact o.elim
/-- a list of its own goes into the ground -/
theorem Gd.freeze {K : PySem.W.Frag} {G : Hp} {R : List Addr} {H : Hp} {h : IH} {a : Addr} {o : HO} (g : Gd K G R H h) (e : H a = some o) (n : G a = none) (m : a ∉ R) : Gd K (upd G a o) R H h ∧ Same G (upd G a o) := by
  have sG : Same G (upd G a o) := fun b u e => by rw [upd_ne (ne_of_none e n)]; exact e
  refine ⟨⟨fun b u eb => ?_, fun b mb => ?_, g.nd, g.len, fun i b c e1 e2 => ?_⟩, sG⟩
  · by_cases q : b = a
    · subst q; rw [upd_same] at eb; rw [← eb]; exact e
    · rw [upd_ne q] at eb; exact g.same _ _ eb
  · rw [upd_ne (fun z => m (by rw [← z]; exact mb))]; exact g.off b mb
  · exact (g.cell i b c e1 e2).mono sG (List.prefix_refl _) fun _ e => e
theorem pb_fz (ha : PEB X E lin .own a fa) : PEB X E lin .fz a fa := impE ha fun σ H Q ⟨G, R, τ, h, N0, g, fr, o⟩ => by
  refine ⟨G, R, τ, h, N0, g, fr, ?_⟩
  cases q : fa τ h with
  | ok t h' =>
    rw [q] at o
    intro G' R' H' g' e' v r
    obtain ⟨ts, a, xs, h1, h2, h3, h4, h5, h6, h7⟩ := r
    obtain ⟨g2, s2⟩ := g'.freeze h3 h5 h4
    refine o (upd G' a (.lst xs)) R' H' g2 ⟨same_trans e'.same s2, e'.pre, e'.kept, fun b n z => ?_, e'.rnew⟩ v ?_
    · by_cases hb : b = a
      · rw [hb]; exact h6
      · rw [upd_ne hb] at z; exact e'.gnew b n z
    · subst h1 h2
      exact .lst (SqL.of upd_same) (h7.mono s2 (List.prefix_refl _))
  | exc x h' => rw [q] at o; exact o
  | no => rw [q] at o; exact o
abbrev G2 := T → T → IH → Option T
abbrev G1 := T → IH → Option T
def eBin (g : G2) (a b : SE) : SE := fun τ h => (a τ h).bind fun x h1 => (b τ h1).bind fun y h2 => Rs.of (g x y h2) h2
def eUn (g : G1) (a : SE) : SE := fun τ h => (a τ h).bind fun x h1 => Rs.of (g x h1) h1
/-- r serves g -/
def Op2 (K : PySem.W.Frag) (r : R2) (g : G2) (kd : Kd) : Prop := ∀ (G : Hp) (R : List Addr) (H : Hp) (h : IH) (x y : T) (vx vy : V) (z : T) (Q : VK), Gd K G R H h → Live K G R H x vx → Live K G R H y vy → g x y h = some z →
  (∀ v G' R' H', Gd K G' R' H' h → Ext G R H G' R' H' → Res K kd H z v G' R' H' → Q v H') → r vx vy H Q
def Op1 (K : PySem.W.Frag) (r : V → Hp → VK → Prop) (g : G1) (kd : Kd) : Prop := ∀ (G : Hp) (R : List Addr) (H : Hp) (h : IH) (x : T) (vx : V) (z : T) (Q : VK), Gd K G R H h → Live K G R H x vx → g x h = some z →
  (∀ v G' R' H', Gd K G' R' H' h → Ext G R H G' R' H' → Res K kd H z v G' R' H' → Q v H') → r vx H Q
theorem two {r : R2} {g : G2} (hg : Op2 X.K r g kd) (σ : L2.St) (H : Hp) (Q : VK) : lE X.K X.mg E lin kd (eBin g fa fb) σ H Q → tOp r (lE X.K X.mg E lin k1 fa) (lE X.K X.mg E lin k2 fb) σ H Q := fun ⟨G, R, τ, h, N0, gd, fr, o⟩ => by
  refine lE.then gd fr o fun x vx h1 G1 R1 H1 g1 e1 f1 r1 o1 => ?_
  refine lE.then g1 f1 o1 fun y vy h2 G2 R2 H2 g2 e2 f2 r2 o2 => ?_
  cases q : g x y h2 with
  | none => rw [q] at o2; exact o2.elim
  | some z =>
    rw [q] at o2
    exact hg G2 R2 H2 h2 x y vx vy z Q g2 (Live.ext e2 (Res.live r1)) (Res.live r2) q fun v G' R' H' g' e' r' => o2 G' R' H' g' e' v (Res.back g2 (e1.trans gd g2 e2) r')
theorem one {r : V → Hp → VK → Prop} {g : G1} (hg : Op1 X.K r g kd) (σ : L2.St) (H : Hp) (Q : VK) : lE X.K X.mg E lin kd (eUn g fa) σ H Q → tUn r (lE X.K X.mg E lin k1 fa) σ H Q := fun ⟨G, R, τ, h, N0, gd, fr, o⟩ => by
  refine lE.then gd fr o fun x vx h1 G1 R1 H1 g1 e1 f1 r1 o1 => ?_
  cases q : g x h1 with
  | none => rw [q] at o1; exact o1.elim
  | some z =>
    rw [q] at o1
    exact hg G1 R1 H1 h1 x vx z Q g1 (Res.live r1) q fun v G' R' H' g' e' r' => o1 G' R' H' g' e' v (Res.back g1 e1 r')
theorem pb_op {op : Operator} {r : R2} {g : G2} (ho : OpR X (binaryOp op) r) (hg : Op2 X.K r g kd) (ha : PEB X E lin k1 a fa) (hb : PEB X E lin k2 b fb) : PEB X E lin kd (.BinOp a op b pos) (eBin g fa fb) := impE (pe_op ho ha hb) (two hg)
theorem pb_un {op : UnaryOp} {r : V → Hp → VK → Prop} {g : G1} (ho : UnR X (unaryOp op) r) (hg : Op1 X.K r g kd) (ha : PEB X E lin k1 a fa) : PEB X E lin kd (.UnaryOp op a pos) (eUn g fa) := impE (pe_un ho ha) (one hg)
theorem pb_cmp {op : CmpOp} {r : R2} {g : G2} (ho : OpR X (compareOp op) r) (hg : Op2 X.K r g kd) (hm : behindInMarks op b = false) (ha : PEB X E lin k1 a fa) (hb : PEB X E lin k2 b fb) : PEB X E lin kd (.Compare a [op] [b] pos) (eBin g fa fb) := impE (pe_cmpR ho ha hb hm) (two hg)
theorem pb_ix {r : R2} {g : G2} (ho : IxR X r) (hg : Op2 X.K r g kd) (hs : PlainIx b) (ha : PEB X E lin k1 a fa) (hb : PEB X E lin k2 b fb) : PEB X E lin kd (.Subscript a b pos) (eBin g fa fb) := impE (pe_ix ho ha hb hs) (two hg)
end
end GB
namespace GB
open PySem PySem.Spec PyProof.Rows L2
def gI (C : Int → Int → Bool) (f : Int → Int → T) : G2
  | .int i, .int j, _ => if C i j = true then some (f i j) else none
  | _, _, _ => none
theorem gI_inv {C : Int → Int → Bool} {f : Int → Int → T} : ∀ {x y : T} {h : IH} {z : T}, gI C f x y h = some z → ∃ i j, x = .int i ∧ y = .int j ∧ C i j = true ∧ z = f i j := by
  intro x y h z e
  unfold gI at e
  split at e
  · split at e
    · rename_i i j c; cases e; exact ⟨i, j, rfl, rfl, c, rfl⟩
    · cases e
  · cases e
def okMul (i j : Int) : Bool := decide ((Builtin.Int.intBits i : Int) + (Builtin.Int.intBits j : Int) ≤ 134217728)
def okDiv (_ j : Int) : Bool := decide (j ≠ 0 ∧ j.natAbs.log2 < 9000)
def okMod (_ j : Int) : Bool := decide (j ≠ 0)
def okPow (i j : Int) : Bool := decide (0 ≤ j ∧ j ≤ 1000000 ∧ i.natAbs < 2 ^ 64)
def okAll (_ _ : Int) : Bool := true
def CDivA (_ j : Int) : Prop := j ≠ 0 ∧ j.natAbs.log2 < 9000
def gSub : G2 := gI okAll fun i j => .int (i - j)
def gMul : G2 := gI okMul fun i j => .int (i * j)
def gDiv : G2 := gI okDiv fun i j => .int (i.fdiv j)
def gMod : G2 := gI okMod fun i j => .int (i.fmod j)
def gPow : G2 := gI okPow fun i j => .int (i ^ j.toNat)
def gShl : G2 := gI okPow fun i j => .int (i * 2 ^ j.toNat)
def gLt : G2 := gI okAll fun i j => .bl (decide (i < j))
def gLe : G2 := gI okAll fun i j => .bl (decide (i ≤ j))
def gGt : G2 := gI okAll fun i j => .bl (decide (j < i))
def gGe : G2 := gI okAll fun i j => .bl (decide (j ≤ i))
section
variable {K : PySem.W.Frag} {X : Cx}
theorem op_divA : OpR X (binaryOp .FloorDiv) (rI CDivA fun i j => .int (i.fdiv j)) := opI fun _ _ _ _ _ _ _ hc q => floordiv_int hc.1 q (.inl (PyProof.noPylong_of_log2 hc.2))
theorem o2_I {C : Int → Int → Bool} {f : Int → Int → T} {P : Int → Int → Prop} {w : Int → Int → V} (hp : ∀ i j, C i j = true → P i j) (hw : ∀ G R i j, Rp K G R (f i j) (w i j)) : Op2 K (rI P w) (gI C f) .fz := by
  intro G R H h x y vx vy z Q g lx ly e k
  obtain ⟨i, j, rfl, rfl, c, rfl⟩ := gI_inv e
  exact ⟨i, j, lx.int, ly.int, hp i j c, k _ G R H g .refl (hw G R i j)⟩
theorem o2_I0 {f : Int → Int → T} {w : Int → Int → V} (hw : ∀ G R i j, Rp K G R (f i j) (w i j)) : Op2 K (rI0 w) (gI okAll f) .fz := by
  intro G R H h x y vx vy z Q g lx ly e k
  obtain ⟨i, j, rfl, rfl, c, rfl⟩ := gI_inv e
  exact ⟨i, j, lx.int, ly.int, k _ G R H g .refl (hw G R i j)⟩
theorem o2_sub : Op2 K (rI0 fun i j => .int (i - j)) gSub .fz := o2_I0 fun _ _ _ _ => .int _
theorem o2_mul : Op2 K (rI CMulX fun i j => .int (i * j)) gMul .fz := o2_I (fun _ _ c => by unfold okMul at c; have c2 := of_decide_eq_true c; exact c2) fun _ _ _ _ => .int _
theorem o2_div : Op2 K (rI CDivA fun i j => .int (i.fdiv j)) gDiv .fz := o2_I (fun _ _ c => by unfold okDiv at c; have c2 := of_decide_eq_true c; exact c2) fun _ _ _ _ => .int _
theorem o2_mod : Op2 K (rI (fun _ j => j ≠ 0) fun i j => .int (i.fmod j)) gMod .fz := o2_I (fun _ _ c => of_decide_eq_true c) fun _ _ _ _ => .int _
theorem o2_pow : Op2 K (rI CPow fun i j => .int (i ^ j.toNat)) gPow .fz := o2_I (fun _ _ c => by unfold okPow at c; have c2 := of_decide_eq_true c; exact c2) fun _ _ _ _ => .int _
theorem o2_lt : Op2 K (rI0 fun i j => .bl (decide (i < j))) gLt .fz := o2_I0 fun _ _ _ _ => .bl _
theorem o2_le : Op2 K (rI0 fun i j => .bl (decide (i ≤ j))) gLe .fz := o2_I0 fun _ _ _ _ => .bl _
theorem o2_gt : Op2 K (rI0 fun i j => .bl (decide (j < i))) gGt .fz := o2_I0 fun _ _ _ _ => .bl _
end
/-- + of ints, texts, tuples -/
def gAdd : G2
  | .int i, .int j, _ => some (.int (i + j))
  | .str a, .str b, _ => if a.length + b.length ≤ sizeLine then some (.str (a ++ b)) else none
  | .tup a, .tup b, _ => if a.length + b.length ≤ sizeLine then some (.tup (a ++ b)) else none
  | _, _, _ => none
def rAddA (K : PySem.W.Frag) : R2 := fun x y H Q => (∃ i j, x = .int i ∧ y = .int j ∧ Q (.int (i + j)) H) ∨ (∃ i j, x = .str i ∧ y = .str j ∧ i.length + j.length ≤ sizeLine ∧ Q (.str (i ++ j)) H) ∨ rCatA K x y H Q
/-- + of lists: a new one -/
def gCat : G2 := fun x y h =>
  match asL h x, asL h y with
  | some a, some b => if a.length + b.length ≤ sizeLine then some (.lst (a ++ b)) else none
  | _, _ => none
section
variable {K : PySem.W.Frag} {X : Cx}
theorem op_addA : OpR X (binaryOp .Add) (rAddA X.K) := op_add.or (op_add_str.or op_catA)
theorem rpl_nil {G : Hp} {R : List Addr} {ts : List T} {xs : List V} (r : RpL K G R ts xs) : ts = [] ↔ xs = [] := by
  cases r <;> simp
theorem o2_add : Op2 K (rAddA K) gAdd .fz := by
  intro G R H h x y vx vy z Q g lx ly e k
  unfold gAdd at e
  split at e
  · cases e; exact .inl ⟨_, _, lx.int, ly.int, k _ G R H g .refl (.int _)⟩
  · split at e
    · cases e; exact .inr (.inl ⟨_, _, lx.str, ly.str, by assumption, k _ G R H g .refl (.str _)⟩)
    · cases e
  · split at e
    · rename_i a b hl
      cases e
      obtain ⟨p, xs, rfl, qx, rx⟩ := lx.asT g rfl
      obtain ⟨q, ys, rfl, qy, ry⟩ := ly.asT g rfl
      refine .inr (.inr ⟨p, q, xs, ys, rfl, rfl, g.sqT qx, g.sqT qy, by rw [← rx.len, ← ry.len]; exact hl, fun n => ?_, fun _ n => ?_, fun _ _ l nl => ?_⟩)
      · have n' := (rpl_nil rx).mpr n
        subst n'
        exact k _ G R H g .refl (by rw [List.nil_append]; exact .tup qy ry)
      · have n' := (rpl_nil ry).mpr n
        subst n'
        exact k _ G R H g .refl (by rw [List.append_nil]; exact .tup qx rx)
      · obtain ⟨g2, e2⟩ := g.newG (o := .tup (xs ++ ys)) nl
        exact k _ _ _ _ g2 e2 (.tup (SqT.of upd_same) (e2.rpl (rx.append ry)))
    · cases e
  · cases e
def rCatL (K : PySem.W.Frag) : R2 := fun x y H Q => ∃ l b xs zs, x = .ref l ∧ y = .ref b ∧ SqL K H l xs ∧ SqL K H b zs ∧ xs.length + zs.length ≤ sizeLine ∧ ∀ p, H p = none → Q (.ref p) (upd H p (.lst (xs ++ zs)))
end
mutual
def py0 : T → Option PyData
  | .non => some .none
  | .bl b => some (.bool b)
  | .int i => some (.int i)
  | .str s => some (.str s)
  | .tup ts => (pyL ts).map PyData.tuple
  | .lst ts => (pyL ts).map PyData.list
  | .box _ => none
def pyL : List T → Option (List PyData)
  | [] => some []
  | t :: ts => match py0 t, pyL ts with
    | some d, some ds => some (d :: ds)
    | _, _ => none
end
def pyH (h : IH) : T → Option PyData
  | .box n => match h[n]? with
    | some (.lst ts) => (pyL ts).map PyData.list
    | _ => none
  | t => py0 t
section
variable {K : PySem.W.Frag} {G G' : Hp} {R R' : List Addr} {H H' H₀ : Hp} {h h' : IH}
mutual
theorem dp_of (s : Same G H) : ∀ {t : T} {v : V} {d : PyData}, Rp K G R t v → py0 t = some d → Dp K H v d
  | _, _, d, .non, e => by cases e; exact .non
  | _, _, d, .bl b, e => by cases e; exact .bl b
  | _, _, d, .int i, e => by cases e; exact .int i
  | _, _, d, .str x, e => by cases e; exact .str x
  | _, _, d, .tup (ts := ts) q k, e => by
    have e' : (pyL ts).map PyData.tuple = some d := e
    obtain ⟨ds, h1, rfl⟩ := Option.map_eq_some_iff.mp e'
    exact .tup (same_sqT s q) (dp_all s k h1)
  | _, _, d, .lst (ts := ts) q k, e => by
    have e' : (pyL ts).map PyData.list = some d := e
    obtain ⟨ds, h1, rfl⟩ := Option.map_eq_some_iff.mp e'
    exact .lst (same_sqL s q) (dp_all s k h1)
  | _, _, d, .box _, e => by cases e
theorem dp_all (s : Same G H) : ∀ {ts : List T} {vs : List V} {ds : List PyData}, RpL K G R ts vs → pyL ts = some ds → DpAll K H vs ds
  | _, _, ds, .nil, e => by cases e; exact .nil
  | _, _, ds, .cons (t := t) (ts := ts) h k, e => by
    have e' : (match py0 t, pyL ts with | some d, some ds => some (d :: ds) | _, _ => none) = some ds := e
    split at e'
    · rename_i d ds' e1 e2
      cases e'
      exact .cons (dp_of s h e1) (dp_all s k e2)
    · cases e'
end
theorem Live.dp (g : Gd K G R H h) {t : T} {v : V} {d : PyData} (r : Live K G R H t v) (e : pyH h t = some d) : Dp K H v d := by
  rcases r with r | ⟨ts, a, xs, rfl, rfl, h3, h4, h5⟩
  · cases r with
    | @box a n q =>
      have e' : (match h[n]? with | some (.lst ts) => (pyL ts).map PyData.list | _ => none) = some d := e
      split at e'
      · rename_i us eq
        obtain ⟨xs, h1, h2⟩ := g.cell n a _ q eq
        obtain ⟨ds, h3, rfl⟩ := Option.map_eq_some_iff.mp e'
        exact .lst (SqL.of h1) (dp_all g.same h2 h3)
      · cases e'
    | non => exact dp_of (R := R) g.same .non e
    | bl b => exact dp_of (R := R) g.same (.bl b) e
    | int b => exact dp_of (R := R) g.same (.int b) e
    | str b => exact dp_of (R := R) g.same (.str b) e
    | tup q k => exact dp_of (R := R) g.same (.tup q k) e
    | lst q k => exact dp_of (R := R) g.same (.lst q k) e
  · have e' : (pyL ts).map PyData.list = some d := e
    obtain ⟨ds, h1, rfl⟩ := Option.map_eq_some_iff.mp e'
    exact .lst (SqL.of h3) (dp_all g.same h5 h1)
end
def gEqB (neg : Bool) : G2 := fun x y h =>
  match pyH h x, pyH h y with
  | some d, some e => if (SeqAt.shaped d && SeqAt.shaped e) = true then some (.bl (neg ^^ PyData.eqv d e)) else none
  | _, _ => none
def gEq : G2 := gEqB false
def gNe : G2 := gEqB true
section
variable {K : PySem.W.Frag} {X : Cx}
theorem o2_eq : Op2 K (rEqD K) gEq .fz := by
  intro G R H h x y vx vy z Q g lx ly e k
  unfold gEq gEqB at e
  split at e
  · rename_i d d' e1 e2
    split at e
    · rename_i sh
      rw [Bool.and_eq_true] at sh
      cases e
      exact ⟨d, d', lx.dp g e1, ly.dp g e2, sh.1, sh.2, by have q := k _ G R H g .refl (.bl (false ^^ PyData.eqv d d')); rw [Bool.false_xor] at q; exact q⟩
    · cases e
  · cases e
theorem o2_ne : Op2 K (rNeD K) gNe .fz := by
  intro G R H h x y vx vy z Q g lx ly e k
  unfold gNe gEqB at e
  split at e
  · rename_i d d' e1 e2
    split at e
    · rename_i sh
      rw [Bool.and_eq_true] at sh
      cases e
      exact ⟨d, d', lx.dp g e1, ly.dp g e2, sh.1, sh.2, by have q := k _ G R H g .refl (.bl (true ^^ PyData.eqv d d')); rw [Bool.true_xor] at q; exact q⟩
    · cases e
  · cases e
end
def isNon : T → Bool
  | .non => true
  | _ => false
def gIsN (neg : Bool) : G2
  | x, .non, _ => some (.bl (neg ^^ isNon x))
  | _, _, _ => none
section
variable {K : PySem.W.Frag} {G : Hp} {R : List Addr} {H : Hp}
theorem Live.isNon {t : T} {v : V} (r : Live K G R H t v) : decide (v = .non) = isNon t := by
  rcases r with r | ⟨ts, a, xs, rfl, rfl, _⟩
  · cases r <;> simp [GB.isNon]
  · simp [GB.isNon]
theorem o2_isN : Op2 K (fun x y H Q => y = .non ∧ Q (.bl (decide (x = .non))) H) (gIsN false) .fz := by
  intro G R H h x y vx vy z Q g lx ly e k
  unfold gIsN at e
  split at e
  · cases e
    refine ⟨ly.non, ?_⟩
    rw [lx.isNon]
    have q := k _ G R H g .refl (.bl (false ^^ GB.isNon x))
    rw [Bool.false_xor] at q; exact q
  · cases e
end
def flatT : T → Option V
  | .non => some .non
  | .bl b => some (.bl b)
  | .int i => some (.int i)
  | .str s => some (.str s)
  | _ => none
def flatL : List T → Option (List V)
  | [] => some []
  | t :: ts => match flatT t, flatL ts with
    | some v, some vs => some (v :: vs)
    | _, _ => none
def asSeq (h : IH) (t : T) : Option (List T) :=
  match t with
  | .tup ts => some ts
  | t => asL h t
def gIn (neg : Bool) : G2 := fun x y h =>
  match x, y with
  | .str ⟨⟨[c]⟩⟩, .str z => some (.bl (neg ^^ decide (c ∈ z.cps.toList)))
  | x, y => match flatT x, (asSeq h y).bind flatL with
    | some v, some vs => some (.bl (neg ^^ inV v vs))
    | _, _ => none
section
variable {K : PySem.W.Frag} {G : Hp} {R : List Addr} {H : Hp} {h : IH}
theorem flatT_live {t : T} {v w : V} (r : Live K G R H t v) (e : flatT t = some w) : v = w ∧ flatV w = true := by
  rcases r with r | ⟨ts, a, xs, rfl, rfl, _⟩
  · cases r <;> cases e <;> exact ⟨rfl, rfl⟩
  · cases e
theorem flatL_rp : ∀ {ts : List T} {vs ws : List V}, RpL K G R ts vs → flatL ts = some ws → vs = ws ∧ ws.all flatV = true
  | _, _, _, .nil, e => by cases e; exact ⟨rfl, rfl⟩
  | _, _, _, .cons (t := t) (ts := ts) r k, e => by
    have e' : (match flatT t, flatL ts with | some v, some vs => some (v :: vs) | _, _ => none) = some _ := e
    split at e'
    · rename_i v vs e1 e2
      cases e'
      obtain ⟨h1, h2⟩ := flatT_live (H := G) (.inl r) e1
      obtain ⟨h3, h4⟩ := flatL_rp k e2
      exact ⟨by rw [h1, h3], by rw [List.all_cons, h2, h4]; rfl⟩
    · cases e'
theorem Live.asSeq (g : Gd K G R H h) {t : T} {ts : List T} {v : V} (r : Live K G R H t v) (e : asSeq h t = some ts) : ∃ a xs, v = .ref a ∧ (SqL K H a xs ∨ SqT K H a xs) ∧ RpL K G R ts xs := by
  unfold GB.asSeq at e
  split at e
  · cases e
    obtain ⟨a, xs, h1, h2, h3⟩ := r.asT g rfl
    exact ⟨a, xs, h1, .inr (g.sqT h2), h3⟩
  · obtain ⟨a, xs, h1, h2, h3⟩ := r.asL g e
    exact ⟨a, xs, h1, .inl h2, h3⟩
def rInA (K : PySem.W.Frag) (neg : Bool) : R2 := fun x y H Q => (∃ (c : Nat) (z : Str), x = .str ⟨#[c]⟩ ∧ y = .str z ∧ Q (.bl (if neg then !decide (c ∈ z.cps.toList) else decide (c ∈ z.cps.toList))) H) ∨ rIn K neg x y H Q
theorem op_inA {X : Cx} : OpR X (compareOp .In) (rInA X.K false) := op_in_sign.or op_in_seq
theorem op_notInA {X : Cx} : OpR X (compareOp .NotIn) (rInA X.K true) := op_notIn_sign.or op_notIn_seq
theorem xor_if (n b : Bool) : (n ^^ b) = (if n then !b else b) := by cases n <;> cases b <;> rfl
theorem o2_in {n : Bool} : Op2 K (rInA K n) (gIn n) .fz := by
  intro G R H h x y vx vy z Q g lx ly e k
  unfold gIn at e
  split at e
  · rename_i c zs
    cases e
    refine .inl ⟨c, zs, lx.str, ly.str, ?_⟩
    rw [← xor_if]
    exact k _ G R H g .refl (.bl _)
  · split at e
    · rename_i v vs e1 e2
      cases e
      obtain ⟨h1, h2⟩ := flatT_live lx e1
      obtain ⟨ts, e3, e4⟩ := Option.bind_eq_some_iff.mp e2
      obtain ⟨a, xs, h3, h4, h5⟩ := ly.asSeq g e3
      obtain ⟨h6, h7⟩ := flatL_rp h5 e4
      subst h1 h6
      refine .inr ⟨a, xs, h3, h4, h2, h7, ?_⟩
      rw [← xor_if]
      exact k _ G R H g .refl (.bl _)
    · cases e
end
def gIx : G2 := fun x y h =>
  match x, y with
  | .str z, .int i => if z.length ≤ sizeLine then (atI z.cps.toList i).map fun c => .str ⟨#[c]⟩ else none
  | x, .int i => (asSeq h x).bind fun ts => atI ts i
  | _, _ => none
section
variable {K : PySem.W.Frag} {G : Hp} {R : List Addr} {H : Hp} {h : IH}
theorem rpl_at {ts : List T} {xs : List V} {i : Int} {t : T} (r : RpL K G R ts xs) (e : atI ts i = some t) : ∃ v, atI xs i = some v ∧ Rp K G R t v := by
  unfold atI at e ⊢
  obtain ⟨j, h1, h2⟩ := Option.bind_eq_some_iff.mp e
  obtain ⟨v, h3, h4⟩ := r.get h2
  rw [← r.len, h1]
  exact ⟨v, h3, h4⟩
theorem o2_ix : Op2 K (rIx K) gIx .fz := by
  intro G R H h x y vx vy z Q g lx ly e k
  unfold gIx at e
  split at e
  · rename_i zs i
    split at e
    · rename_i hl
      obtain ⟨c, h1, rfl⟩ := Option.map_eq_some_iff.mp e
      exact .inr (.inr ⟨zs, i, c, lx.str, ly.int, hl, h1, k _ G R H g .refl (.str _)⟩)
    · cases e
  · rename_i i _
    obtain ⟨ts, h1, h2⟩ := Option.bind_eq_some_iff.mp e
    obtain ⟨a, xs, h3, h4, h5⟩ := lx.asSeq g h1
    obtain ⟨v, h6, h7⟩ := rpl_at h5 h2
    rcases h4 with h4 | h4
    · exact .inl ⟨a, xs, i, v, h3, ly.int, h4, h6, k _ G R H g .refl h7⟩
    · exact .inr (.inl ⟨a, xs, i, v, h3, ly.int, h4, h6, k _ G R H g .refl h7⟩)
  · cases e
end
def gNeg : G1
  | .int i, _ => some (.int (-i))
  | _, _ => none
section
variable {K : PySem.W.Frag}
theorem o1_neg : Op1 K (rU fun i => .int (-i)) gNeg .fz := by
  intro G R H h x vx z Q g lx e k
  unfold gNeg at e
  split at e
  · cases e; exact ⟨_, lx.int, k _ G R H g .refl (.int _)⟩
  · cases e
end
end GB
namespace GB
open PySem PySem.Spec PyProof.Rows L2
def aNil : SA := fun _ h => .ok [] h
def aCons (f : SE) (g : SA) : SA := fun τ h => (f τ h).bind fun t h1 => (g τ h1).bind fun ts h2 => .ok (t :: ts) h2
def eTup (f : SA) : SE := fun τ h => (f τ h).bind fun ts h1 => if ts.length ≤ sizeLine then .ok (.tup ts) h1 else .no
def eLst (f : SA) : SE := fun τ h => (f τ h).bind fun ts h1 => if ts.length ≤ sizeLine then .ok (.lst ts) h1 else .no
def eBox (f : SA) : SE := fun τ h => (f τ h).bind fun ts h1 => if ts.length ≤ sizeLine then .ok (.box h1.length) (h1 ++ [.lst ts]) else .no
section
variable {X : Cx} {E : WX} {lin : List Nat} {kd k1 k2 k3 : Kd} {e a b c : Expr} {es rest : List Expr} {fa fb fc : SE} {fs : SA} {pos : Pos}
theorem pab_nil : PAB X E lin [] aNil := impA pa_nil fun σ H Q ⟨G, R, τ, h, N0, g, fr, o⟩ => o G R H g .refl [] .nil
theorem pab_cons (ha : PEB X E lin .fz a fa) (hr : PAB X E lin es fs) (hs : starEach (a :: es) X.env = (false, eval a X.env) :: starEach es X.env := by rfl) : PAB X E lin (a :: es) (aCons fa fs) := impA (pa_cons ha hr hs) fun σ H Q ⟨G, R, τ, h, N0, gd, fr, o⟩ => by
  refine lE.then gd fr o fun x vx h1 G1 R1 H1 g1 e1 f1 r1 o1 => ?_
  refine lA.then g1 f1 o1 fun ts vs h2 G2 R2 H2 g2 e2 f2 r2 o2 => ?_
  exact o2 G2 R2 H2 g2 .refl _ (.cons (e2.rp r1) r2)
theorem pb_tup {x1} (h : PAB X E lin es fs) : PEB X E lin .fz (.Tuple es x1 pos) (eTup fs) := impE (pe_tup h) fun σ H Q ⟨G, R, τ, h, N0, gd, fr, o⟩ => by
  refine lA.then gd fr o fun ts vs h1 G1 R1 H1 g1 e1 f1 r1 o1 => ?_
  split at o1
  · rename_i hl
    refine ⟨by rw [← r1.len]; exact hl, fun p hp => ?_⟩
    obtain ⟨g2, e2⟩ := g1.newG (o := .tup vs) hp
    exact o1 _ _ _ g2 e2 _ (.tup (SqT.of upd_same) (e2.rpl r1))
  · exact o1.elim
theorem pb_lst (h : PAB X E lin es fs) : PEB X E lin .own (.List es pos) (eLst fs) := impE (pe_lst h) fun σ H Q ⟨G, R, τ, h, N0, gd, fr, o⟩ => by
  refine lA.then gd fr o fun ts vs h1 G1 R1 H1 g1 e1 f1 r1 o1 => ?_
  split at o1
  · rename_i hl
    refine ⟨by rw [← r1.len]; exact hl, fun p hp => ?_⟩
    obtain ⟨g2, e2, n, m⟩ := g1.newO (o := .lst vs) hp
    exact o1 _ _ _ g2 e2 _ ⟨ts, p, vs, rfl, rfl, upd_same, m, n, e1.free g1 hp, e2.rpl r1⟩
  · exact o1.elim
/-- a list that stands by itself becomes a box -/
theorem Gd.boxed {K : PySem.W.Frag} {G : Hp} {R : List Addr} {H : Hp} {h : IH} (g : Gd K G R H h) {p : Addr} {cc : Cell} (nG : G p = none) (m : p ∉ R) (r : CellOk K G (R ++ [p]) H p cc) : Gd K G (R ++ [p]) H (h ++ [cc]) := by
  refine ⟨g.same, fun a ma => ?_, ?_, by simp [g.len], fun i a c e1 e3 => ?_⟩
  · rcases List.mem_append.mp ma with ma | ma
    · exact g.off a ma
    · rw [List.mem_singleton.mp ma]; exact nG
  · rw [List.nodup_append]
    refine ⟨g.nd, by simp, fun x mx y my => ?_⟩
    rw [List.mem_singleton.mp my]
    exact fun z => m (z ▸ mx)
  · by_cases hi : i < R.length
    · rw [List.getElem?_append_left hi] at e1
      rw [List.getElem?_append_left (by rw [← g.len]; exact hi)] at e3
      exact (g.cell i a c e1 e3).mono (fun _ _ e => e) (List.prefix_append _ _) fun _ e => e
    · have hi2 : i = R.length := by
        have z := (List.getElem?_eq_some_iff.mp e1).1
        rw [List.length_append, List.length_singleton] at z
        omega
      subst hi2
      rw [List.getElem?_append_right (Nat.le_refl _), Nat.sub_self] at e1
      rw [g.len, List.getElem?_append_right (Nat.le_refl _), Nat.sub_self] at e3
      cases e1
      cases e3
      exact r
theorem Gd.newB {K : PySem.W.Frag} {G : Hp} {R : List Addr} {H : Hp} {h : IH} (g : Gd K G R H h) {p : Addr} {ts : List T} {vs : List V} (n : H p = none) (r : RpL K G R ts vs) :
    Gd K G (R ++ [p]) (upd H p (.lst vs)) (h ++ [.lst ts]) ∧ Ext G R H G (R ++ [p]) (upd H p (.lst vs)) := by
  obtain ⟨g2, e2, nG, m⟩ := g.newO (o := .lst vs) n
  refine ⟨g2.boxed nG m ⟨vs, upd_same, r.mono (fun _ _ e => e) (List.prefix_append _ _)⟩, ⟨e2.same, List.prefix_append _ _, e2.kept, e2.gnew, fun b mb => ?_⟩⟩
  rcases List.mem_append.mp mb with mb | mb
  · exact .inl mb
  · rw [List.mem_singleton.mp mb]; exact .inr n
theorem pb_box (h : PAB X E lin es fs) : PEB X E lin .fz (.List es pos) (eBox fs) := impE (pe_lst h) fun σ H Q ⟨G, R, τ, h, N0, gd, fr, o⟩ => by
  refine lA.then gd fr o fun ts vs h1 G1 R1 H1 g1 e1 f1 r1 o1 => ?_
  split at o1
  · rename_i hl
    refine ⟨by rw [← r1.len]; exact hl, fun p hp => ?_⟩
    obtain ⟨g2, e2⟩ := g1.newB hp r1
    exact o1 _ _ _ g2 e2 _ (.box (by rw [← g1.len, List.getElem?_append_right (Nat.le_refl _), Nat.sub_self]; rfl))
  · exact o1.elim
def sOf (f : SE) : SB := fun τ h => (f τ h).bind fun x h1 =>
  match x with
  | .bl b => .ok b h1
  | _ => .no
theorem lB_of {f : SE} (σ : L2.St) (H : Hp) (Q : Bool → Hp → Prop) : lB X.K X.mg E lin (sOf f) σ H Q → lE X.K X.mg E lin .any f σ H (fun x H' => ∃ k, x = .bl k ∧ Q k H') := fun ⟨G, R, τ, h, N0, gd, fr, o⟩ => by
  refine lE.then gd fr o fun x vx h1 G1 R1 H1 g1 e1 f1 r1 o1 => ?_
  split at o1
  · rename_i b
    exact ⟨b, Live.bl r1, o1 G1 R1 H1 g1 .refl⟩
  · exact o1.elim
theorem lE_any {f : SE} (σ : L2.St) (H : Hp) (Q : VK) : lE X.K X.mg E lin .any f σ H Q → lE X.K X.mg E lin kd f σ H Q := fun ⟨G, R, τ, h, N0, gd, fr, o⟩ => by
  refine ⟨G, R, τ, h, N0, gd, fr, ?_⟩
  cases q : f τ h with
  | ok t h' => rw [q] at o; exact fun G' R' H' g' e' v r => o G' R' H' g' e' v (Res.live r)
  | exc x h' => rw [q] at o; exact o
  | no => rw [q] at o; exact o
theorem two_any {r : R2} {g : G2} (hg : Op2 X.K r g kd) (σ : L2.St) (H : Hp) (Q : VK) (h : lE X.K X.mg E lin .any (eBin g fa fb) σ H Q) : tOp r (lE X.K X.mg E lin k1 fa) (lE X.K X.mg E lin k2 fb) σ H Q :=
  two hg σ H Q (lE_any σ H Q h)
theorem ptb_cmp {op : CmpOp} {r : R2} {g : G2} (ho : OpR X (compareOp op) r) (hg : Op2 X.K r g kd) (hm : behindInMarks op b = false) (ha : PEB X E lin k1 a fa) (hb : PEB X E lin k2 b fb) : PTB X E lin (.Compare a [op] [b] pos) (sOf (eBin g fa fb)) :=
  impT (pt_cmpR ho ha hb hm) fun σ H Q h => two_any hg σ H _ (lB_of σ H Q h)
/-- an expression that gives a truth -/
theorem ptb_val (ha : PEB X E lin kd a fa) (he : ∀ whole, isTrue a X.env whole = (do let v ← whole; standAt a.pos; holding [v] (truthy v)) := by intro _; rfl) : PTB X E lin a (sOf fa) :=
  impT (pt_val ha he) fun σ H Q h => lE_any σ H _ (lB_of σ H Q h)
def PWB (X : Cx) (E : WX) (lin : List Nat) (e : Expr) (f : SB) : Prop := PW X e (lB X.K X.mg E lin f)
def sAnd (f g : SB) : SB := fun τ h => (f τ h).bind fun b h1 => if b = true then g τ h1 else .ok false h1
def sOr (f g : SB) : SB := fun τ h => (f τ h).bind fun b h1 => if b = true then .ok true h1 else g τ h1
def sNot (f : SB) : SB := fun τ h => (f τ h).bind fun b h1 => .ok (!b) h1
variable {sa sb sc : SB}
theorem pwb_and1 (ha : PTB X E lin a sa) : PWB X E lin (.BoolOp .And [a] pos) sa := pw_and1 ha
theorem pwb_or1 (ha : PTB X E lin a sa) : PWB X E lin (.BoolOp .Or [a] pos) sa := pw_or1 ha
theorem impW {X : Cx} {e : Expr} {t t' : TT} (h : PW X e t) (w : ∀ σ H Q, t' σ H Q → t σ H Q) : PW X e t' := ⟨fun wh pins s σ H Q I q => h.run wh pins s σ H Q I (w σ H Q q)⟩
theorem pwb_and (ha : PTB X E lin a sa) (hb : PWB X E lin (.BoolOp .And (b :: rest) pos) sb) : PWB X E lin (.BoolOp .And (a :: b :: rest) pos) (sAnd sa sb) := impW (pw_and ha hb) fun σ H Q ⟨G, R, τ, h, N0, gd, fr, o⟩ => by
  refine lB.then gd fr o fun x h1 G1 R1 H1 g1 e1 f1 o1 => ?_
  cases x with
  | true => exact ⟨G1, R1, τ, h1, N0, g1, f1, o1⟩
  | false => exact o1 G1 R1 H1 g1 .refl
theorem pwb_or (ha : PTB X E lin a sa) (hb : PWB X E lin (.BoolOp .Or (b :: rest) pos) sb) : PWB X E lin (.BoolOp .Or (a :: b :: rest) pos) (sOr sa sb) := impW (pw_or ha hb) fun σ H Q ⟨G, R, τ, h, N0, gd, fr, o⟩ => by
  refine lB.then gd fr o fun x h1 G1 R1 H1 g1 e1 f1 o1 => ?_
  cases x with
  | false => exact ⟨G1, R1, τ, h1, N0, g1, f1, o1⟩
  | true => exact o1 G1 R1 H1 g1 .refl
theorem pwb_t (h : PWB X E lin a sa) : PTB X E lin a sa := h.pt
theorem ptb_not (ha : PTB X E lin a sa) : PTB X E lin (.UnaryOp .Not a pos) (sNot sa) := impT (pt_not ha) fun σ H Q ⟨G, R, τ, h, N0, gd, fr, o⟩ => by
  refine lB.then gd fr o fun x h1 G1 R1 H1 g1 e1 f1 o1 => ?_
  exact o1 G1 R1 H1 g1 .refl
def eAnd (f g : SE) : SE := fun τ h => (sOf f τ h).bind fun b h1 => if b = true then g τ h1 else .ok (.bl false) h1
def eOr (f g : SE) : SE := fun τ h => (sOf f τ h).bind fun b h1 => if b = true then .ok (.bl true) h1 else g τ h1
def eNot (f : SE) : SE := fun τ h => (sOf f τ h).bind fun b h1 => .ok (.bl (!b)) h1
def eIf (c : SB) (f g : SE) : SE := fun τ h => (c τ h).bind fun b h1 => if b = true then f τ h1 else g τ h1
theorem lE_of {f : SE} {α : Type} {G : Hp} {R : List Addr} {τ : Ev} {h : IH} {N0 : Addr → Prop} {σ : L2.St} {H : Hp} {Q : VK} {k : Bool → IH → Rs α} {P : α → Hp → List Addr → Hp → Prop} (gd : Gd X.K G R H h) (fr : Fr X.K lin G R H τ σ N0) (o : Out X.K X.mg (fun c d H' => E c d σ H') G R H ((sOf f τ h).bind k) P)
    (hq : ∀ b h1 G1 R1 H1, Gd X.K G1 R1 H1 h1 → Ext G R H G1 R1 H1 → Fr X.K lin G1 R1 H1 τ σ N0 → Out X.K X.mg (fun c d H' => E c d σ H') G1 R1 H1 (k b h1) P → Q (.bl b) H1) : lE X.K X.mg E lin kd f σ H Q := by
  refine ⟨G, R, τ, h, N0, gd, fr, ?_⟩
  unfold sOf at o
  cases e : f τ h with
  | ok t h1 =>
    rw [e] at o
    intro G1 R1 H1 g1 e1 v r
    have r' := Res.live r
    cases t with
    | bl b => rw [Live.bl r']; exact hq b h1 G1 R1 H1 g1 e1 (fr.ext e1) (Out.on (h := h) gd e1 o)
    | _ => exact False.elim o
  | exc x h1 => rw [e] at o; exact o
  | no => rw [e] at o; exact o
theorem pb_one {op} (h : PEB X E lin kd a fa) : PEB X E lin kd (.BoolOp op [a] pos) fa := pe_one h
theorem pb_and (ha : PEB X E lin k1 a fa) (hb : PEB X E lin .fz (.BoolOp .And (b :: rest) pos) fb) : PEB X E lin .fz (.BoolOp .And (a :: b :: rest) pos) (eAnd fa fb) := impE (pe_and ha hb) fun σ H Q ⟨G, R, τ, h, N0, gd, fr, o⟩ => by
  refine lE_of gd fr o fun x h1 G1 R1 H1 g1 e1 f1 o1 => ⟨x, rfl, ?_⟩
  cases x with
  | true => exact ⟨G1, R1, τ, h1, N0, g1, f1, o1⟩
  | false => exact o1 G1 R1 H1 g1 .refl _ (.bl false)
theorem pb_or (ha : PEB X E lin k1 a fa) (hb : PEB X E lin .fz (.BoolOp .Or (b :: rest) pos) fb) : PEB X E lin .fz (.BoolOp .Or (a :: b :: rest) pos) (eOr fa fb) := impE (pe_or ha hb) fun σ H Q ⟨G, R, τ, h, N0, gd, fr, o⟩ => by
  refine lE_of gd fr o fun x h1 G1 R1 H1 g1 e1 f1 o1 => ⟨x, rfl, ?_⟩
  cases x with
  | false => exact ⟨G1, R1, τ, h1, N0, g1, f1, o1⟩
  | true => exact o1 G1 R1 H1 g1 .refl _ (.bl true)
theorem pb_not (ha : PEB X E lin k1 a fa) : PEB X E lin .fz (.UnaryOp .Not a pos) (eNot fa) := impE (pe_not ha) fun σ H Q ⟨G, R, τ, h, N0, gd, fr, o⟩ => by
  refine lE_of gd fr o fun x h1 G1 R1 H1 g1 e1 f1 o1 => ⟨x, rfl, ?_⟩
  exact o1 G1 R1 H1 g1 .refl _ (.bl _)
theorem pb_if (hc : PTB X E lin c sc) (ha : PEB X E lin kd a fa) (hb : PEB X E lin kd b fb) : PEB X E lin kd (.IfExp c a b pos) (eIf sc fa fb) := impE (pe_ifExp hc ha hb) fun σ H Q ⟨G, R, τ, h, N0, gd, fr, o⟩ => by
  refine lB.then gd fr o fun x h1 G1 R1 H1 g1 e1 f1 o1 => ?_
  have back : ∀ {f : SE}, Out X.K X.mg (fun c d H' => E c d σ H') G1 R1 H1 (f τ h1) (fun t G' R' H' => ∀ v, Res X.K kd H t v G' R' H' → Q v H') → lE X.K X.mg E lin kd f σ H1 Q := fun {f} o => by
    refine ⟨G1, R1, τ, h1, N0, g1, f1, ?_⟩
    cases q : f τ h1 with
    | ok t h' => rw [q] at o; exact fun G' R' H' g' e' v r => o G' R' H' g' e' v (Res.back g1 e1 r)
    | exc x h' => rw [q] at o; exact o
    | no => rw [q] at o; exact o
  cases x with
  | true => exact back o1
  | false => exact back o1
def eChain (g1 g2 : G2) (a b c : SE) : SE := fun τ h => (a τ h).bind fun x h1 => (b τ h1).bind fun y h2 => (Rs.of (g1 x y h2) h2).bind fun z h3 =>
  match z with
  | .bl true => (c τ h3).bind fun w h4 => Rs.of (g2 y w h4) h4
  | .bl false => .ok (.bl false) h3
  | _ => .no
theorem chain_go {r r' : R2} {g g' : G2} (hg : Op2 X.K r g k1) (hg' : Op2 X.K r' g' kd) (σ : L2.St) (H : Hp) (Q : VK) (hb : ∀ k1 k2 : Kd, True) : lE X.K X.mg E lin .any (eChain g g' fa fb fc) σ H Q → tChain r r' (lE X.K X.mg E lin k1 fa) (lE X.K X.mg E lin k2 fb) (lE X.K X.mg E lin k3 fc) σ H Q := fun ⟨G, R, τ, h, N0, gd, fr, o⟩ => by
  refine lE.then gd fr o fun x vx h1 G1 R1 H1 g1 e1 f1 r1 o1 => ?_
  refine lE.then g1 f1 o1 fun y vy h2 G2 R2 H2 g2 e2 f2 r2 o2 => ?_
  cases q : g x y h2 with
  | none => rw [q] at o2; exact o2.elim
  | some z =>
    rw [q] at o2
    refine hg G2 R2 H2 h2 x y vx vy z _ g2 (Live.ext e2 (Res.live r1)) (Res.live r2) q fun v G3 R3 H3 g3 e3 r3 => ?_
    have o3 := Out.on (h := h2) g2 e3 o2
    have l3 := Res.live r3
    cases z with
    | bl b =>
      refine ⟨b, Live.bl l3, ?_⟩
      cases b with
      | false => exact o3 G3 R3 H3 g3 .refl _ (.inl (.bl false))
      | true =>
        refine lE.then g3 (f2.ext e3) o3 fun w vw h4 G4 R4 H4 g4 e4 f4 r4 o4 => ?_
        cases q4 : g' y w h4 with
        | none => rw [q4] at o4; exact o4.elim
        | some z4 =>
          rw [q4] at o4
          exact hg' G4 R4 H4 h4 y w vy vw z4 Q g4 (Live.ext e4 (Live.ext e3 (Res.live r2))) (Res.live r4) q4 fun v G' R' H' g' e' r' => o4 G' R' H' g' e' v (Res.live r')
    | _ => exact False.elim o3
theorem chain_goF {r r' : R2} {g g' : G2} (hg : Op2 X.K r g k1) (hg' : Op2 X.K r' g' .fz) (σ : L2.St) (H : Hp) (Q : VK) (hb : ∀ k1 k2 : Kd, True) : lE X.K X.mg E lin .fz (eChain g g' fa fb fc) σ H Q → tChain r r' (lE X.K X.mg E lin k1 fa) (lE X.K X.mg E lin k2 fb) (lE X.K X.mg E lin k3 fc) σ H Q := fun ⟨G, R, τ, h, N0, gd, fr, o⟩ => by
  refine lE.then gd fr o fun x vx h1 G1 R1 H1 g1 e1 f1 r1 o1 => ?_
  refine lE.then g1 f1 o1 fun y vy h2 G2 R2 H2 g2 e2 f2 r2 o2 => ?_
  cases q : g x y h2 with
  | none => rw [q] at o2; exact o2.elim
  | some z =>
    rw [q] at o2
    refine hg G2 R2 H2 h2 x y vx vy z _ g2 (Live.ext e2 (Res.live r1)) (Res.live r2) q fun v G3 R3 H3 g3 e3 r3 => ?_
    have o3 := Out.on (h := h2) g2 e3 o2
    have l3 := Res.live r3
    cases z with
    | bl b =>
      refine ⟨b, Live.bl l3, ?_⟩
      cases b with
      | false => exact o3 G3 R3 H3 g3 .refl _ (.bl false)
      | true =>
        refine lE.then g3 (f2.ext e3) o3 fun w vw h4 G4 R4 H4 g4 e4 f4 r4 o4 => ?_
        cases q4 : g' y w h4 with
        | none => rw [q4] at o4; exact o4.elim
        | some z4 =>
          rw [q4] at o4
          exact hg' G4 R4 H4 h4 y w vy vw z4 Q g4 (Live.ext e4 (Live.ext e3 (Res.live r2))) (Res.live r4) q4 fun v G' R' H' g' e' r' => o4 G' R' H' g' e' v r'
    | _ => exact False.elim o3
theorem pb_chain {op op' : CmpOp} {r r' : R2} {g g' : G2} (ho : OpR X (compareOp op) r) (hg : Op2 X.K r g k1) (ho' : OpR X (compareOp op') r') (hg' : Op2 X.K r' g' .fz) (ha : PEB X E lin k1 a fa) (hb : PEB X E lin k2 b fb) (hc : PEB X E lin k3 c fc)
    (hm : lastMarks [op, op'] [b, c] = false := by with_unfolding_all rfl) : PEB X E lin .fz (.Compare a [op, op'] [b, c] pos) (eChain g g' fa fb fc) :=
  impE (pe_chain ho ho' ha hb hc hm) fun σ H Q h => chain_goF hg hg' σ H Q (fun _ _ => trivial) h
theorem ptb_chain {op op' : CmpOp} {r r' : R2} {g g' : G2} (ho : OpR X (compareOp op) r) (hg : Op2 X.K r g k1) (ho' : OpR X (compareOp op') r') (hg' : Op2 X.K r' g' kd) (ha : PEB X E lin k1 a fa) (hb : PEB X E lin k2 b fb) (hc : PEB X E lin k3 c fc)
    (hm : lastMarks [op, op'] [b, c] = false := by with_unfolding_all rfl) : PTB X E lin (.Compare a [op, op'] [b, c] pos) (sOf (eChain g g' fa fb fc)) :=
  impT (pt_chain ho ho' ha hb hc hm) fun σ H Q h => chain_go hg hg' σ H _ (fun _ _ => trivial) (lB_of σ H Q h)
end
abbrev SO := Ev → IH → Rs (Option Int)
def oNone : SO := fun _ h => .ok none h
def oSome (f : SE) : SO := fun τ h => (f τ h).bind fun x h1 =>
  match x with
  | .int i => .ok (some i) h1
  | _ => .no
def lO (K : PySem.W.Frag) (mg : Str → Option Value) (E : WX) (lin : List Nat) (f : SO) : TO := fun σ H Q =>
  ∃ G R τ h N0, Gd K G R H h ∧ Fr K lin G R H τ σ N0 ∧ Out K mg (fun c d H' => E c d σ H') G R H (f τ h) fun b G' R' H' => Q b H'
def POB (X : Cx) (E : WX) (lin : List Nat) (e : Option Expr) (f : SO) : Prop := PO X e (lO X.K X.mg E lin f)
theorem impO {X : Cx} {e : Option Expr} {t t' : TO} (h : PO X e t) (w : ∀ σ H Q, t' σ H Q → t σ H Q) : PO X e t' := ⟨fun pins s σ H Q I q => h.run pins s σ H Q I (w σ H Q q)⟩
theorem lO.then {K : PySem.W.Frag} {mg : Str → Option Value} {E : WX} {lin : List Nat} {G : Hp} {R : List Addr} {H : Hp} {h : IH} {τ : Ev} {σ : L2.St} {N0 : Addr → Prop} {α : Type} {P : α → Hp → List Addr → Hp → Prop} {f : SO} {k : Option Int → IH → Rs α} {Q : Option Int → Hp → Prop} (g : Gd K G R H h) (fr : Fr K lin G R H τ σ N0) (o : Out K mg (fun c d H' => E c d σ H') G R H ((f τ h).bind k) P)
    (hq : ∀ b h1 G1 R1 H1, Gd K G1 R1 H1 h1 → Ext G R H G1 R1 H1 → Fr K lin G1 R1 H1 τ σ N0 → Out K mg (fun c d H' => E c d σ H') G1 R1 H1 (k b h1) P → Q b H1) : lO K mg E lin f σ H Q := by
  refine ⟨G, R, τ, h, N0, g, fr, ?_⟩
  cases e : f τ h with
  | ok t h1 =>
    rw [e] at o
    exact fun G1 R1 H1 g1 e1 => hq t h1 G1 R1 H1 g1 e1 (fr.ext e1) (Out.on (h := h) g e1 o)
  | exc x h1 => rw [e] at o; exact o
  | no => rw [e] at o; exact o
abbrev G3 := T → Option Int → Option Int → IH → Option T
def eSl (g : G3) (f : SE) (lo hi : SO) : SE := fun τ h => (f τ h).bind fun x h1 => (lo τ h1).bind fun l h2 => (hi τ h2).bind fun u h3 => Rs.of (g x l u h3) h3
def cutL {α : Type} (xs : List α) (lo hi : Option Int) : List α := (xs.drop (HT.sIx xs.length 0 lo)).take (HT.sIx xs.length xs.length hi - HT.sIx xs.length 0 lo)
def gSlL : G3 := fun x lo hi h => (asL h x).map fun ts => .lst (cutL ts lo hi)
def gSlT : G3
  | .tup ts, lo, hi, _ => some (.tup (cutL ts lo hi))
  | .str z, lo, hi, _ => if z.length ≤ sizeLine then some (.str (cutS z lo hi)) else none
  | _, _, _, _ => none
def Op3 (K : PySem.W.Frag) (r : V → Option Int → Option Int → Hp → VK → Prop) (g : G3) (kd : Kd) : Prop := ∀ (G : Hp) (R : List Addr) (H : Hp) (h : IH) (x : T) (vx : V) (lo hi : Option Int) (z : T) (Q : VK), Gd K G R H h → Live K G R H x vx → g x lo hi h = some z →
  (∀ v G' R' H', Gd K G' R' H' h → Ext G R H G' R' H' → Res K kd H z v G' R' H' → Q v H') → r vx lo hi H Q
section
variable {X : Cx} {E : WX} {lin : List Nat} {kd k1 k2 k3 : Kd} {e a b c : Expr} {lo hi : Option Expr} {fa fb fc : SE} {fl fh : SO} {pos p2 : Pos}
theorem pob_none : POB X E lin none oNone := impO po_none fun σ H Q ⟨G, R, τ, h, N0, g, fr, o⟩ => o G R H g .refl
theorem pob_some (ha : PEB X E lin kd a fa) : POB X E lin (some a) (oSome fa) := impO (po_some ha) fun σ H Q ⟨G, R, τ, h, N0, gd, fr, o⟩ => by
  refine lE.then gd fr o fun x vx h1 G1 R1 H1 g1 e1 f1 r1 o1 => ?_
  split at o1
  · rename_i i
    exact ⟨i, Live.int (Res.live r1), o1 G1 R1 H1 g1 .refl⟩
  · exact o1.elim
theorem pb_slice {r : V → Option Int → Option Int → Hp → VK → Prop} {g : G3} (hr : SlR X r) (hg : Op3 X.K r g kd) (ha : PEB X E lin k1 a fa) (hl : POB X E lin lo fl) (hu : POB X E lin hi fh) : PEB X E lin kd (.Subscript a (.Slice lo hi none p2) pos) (eSl g fa fl fh) := impE (pe_slice hr ha hl hu) fun σ H Q ⟨G, R, τ, h, N0, gd, fr, o⟩ => by
  refine lE.then gd fr o fun x vx h1 G1 R1 H1 g1 e1 f1 r1 o1 => ?_
  refine lO.then g1 f1 o1 fun l h2 G2 R2 H2 g2 e2 f2 o2 => ?_
  refine lO.then g2 f2 o2 fun u h3 G3 R3 H3 g3 e3 f3 o3 => ?_
  cases q : g x l u h3 with
  | none => rw [q] at o3; exact o3.elim
  | some z =>
    rw [q] at o3
    exact hg G3 R3 H3 h3 x vx l u z Q g3 (Live.ext e3 (Live.ext e2 (Res.live r1))) q fun v G' R' H' g' e' r' => o3 G' R' H' g' e' v (Res.back g3 ((e1.trans gd g2 e2).trans gd g3 e3) r')
theorem rpl_cut {K : PySem.W.Frag} {G : Hp} {R : List Addr} {ts : List T} {xs : List V} (r : RpL K G R ts xs) (lo hi : Option Int) : RpL K G R (cutL ts lo hi) (cutV xs lo hi) := by
  unfold cutL cutV
  rw [r.len]
  exact (r.drop _).take _
theorem o3_list {K : PySem.W.Frag} : Op3 K (rSlL K) gSlL .own := by
  intro G R H h x vx lo hi z Q g lx e k
  unfold gSlL at e
  obtain ⟨ts, e1, rfl⟩ := Option.map_eq_some_iff.mp e
  obtain ⟨a, xs, rfl, h1, h2⟩ := lx.asL g e1
  refine ⟨a, xs, rfl, h1, fun p np => ?_⟩
  obtain ⟨g2, e2, n, m⟩ := g.newO (o := .lst (cutV xs lo hi)) np
  exact k _ _ _ _ g2 e2 ⟨_, p, _, rfl, rfl, upd_same, m, n, np, e2.rpl (rpl_cut h2 lo hi)⟩
def rSlTS (K : PySem.W.Frag) : V → Option Int → Option Int → Hp → VK → Prop := fun x lo hi H Q => rSlA K x lo hi H Q ∨ rSlS x lo hi H Q
theorem sl_ts : SlR X (rSlTS X.K) := sl_tupA.or sl_str
theorem o3_ts {K : PySem.W.Frag} : Op3 K (rSlTS K) gSlT .fz := by
  intro G R H h x vx lo hi z Q g lx e k
  unfold gSlT at e
  split at e
  · cases e
    obtain ⟨a, xs, rfl, h1, h2⟩ := lx.asT g rfl
    refine .inl ⟨a, xs, rfl, g.sqT h1, fun ⟨w1, w2⟩ => ?_, fun _ p np => ?_⟩
    · have c : cutV xs lo hi = xs := by
        unfold cutV
        rw [w1, w2, List.drop_zero, Nat.sub_zero, List.take_length]
      exact k _ G R H g .refl (.tup (by rw [c]; exact h1) (rpl_cut h2 lo hi))
    · obtain ⟨g2, e2⟩ := g.newG (o := .tup (cutV xs lo hi)) np
      exact k _ _ _ _ g2 e2 (.tup (SqT.of upd_same) (e2.rpl (rpl_cut h2 lo hi)))
  · split at e
    · cases e
      exact .inr ⟨_, lx.str, by assumption, k _ G R H g .refl (.str _)⟩
    · cases e
  · cases e
end
end GB
namespace GB
open PySem PySem.Spec PyProof.Rows L2
section
variable {X : Cx} {E : WX} {lin : List Nat} {kd k1 k2 k3 : Kd} {e a b c : Expr} {fa fb fc : SE} {pos p : Pos} {x : Str}
theorem pb_c1 {id : String} {r : List V → Hp → VK → Prop} {g : G1} (hc : CallR X (.builtin id) r) (hr : Op1 X.K (fun v => r [v]) g kd) (hg : Gl X x) (hm : X.mg x = none) (hv : bootBuiltins x = some (.builtin id)) (ha : PEB X E lin k1 a fa) (hn : x ≠ "__name__" := by decide) (hdb : (x == ("__debug__" : Str)) = false := by decide)
    (hs : starEach [a] X.env = (false, eval a X.env) :: starEach [] X.env := by rfl) (hpl : (backTo pos (starEach [] X.env)).any (·.1) = false := by rfl) : PEB X E lin kd (.Call (.Name x p) [a] [] pos) (eUn g fa) :=
  impE (pe_callB hc hg hm hv (pa_cons ha pa_nil hs) hn hdb hs hpl) fun σ H Q h => one hr σ H Q h
theorem pb_y1 {id : String} {r : List V → Hp → VK → Prop} {g : G1} (hc : CallR X (.type id) r) (hr : Op1 X.K (fun v => r [v]) g kd) (hg : Gl X x) (hm : X.mg x = none) (hv : bootBuiltins x = some (.type id)) (ha : PEB X E lin k1 a fa) (hn : x ≠ "__name__" := by decide) (hdb : (x == ("__debug__" : Str)) = false := by decide)
    (hs : starEach [a] X.env = (false, eval a X.env) :: starEach [] X.env := by rfl) (hpl : (backTo pos (starEach [] X.env)).any (·.1) = false := by rfl) : PEB X E lin kd (.Call (.Name x p) [a] [] pos) (eUn g fa) :=
  impE (pe_callTy hc hg hm hv (pa_cons ha pa_nil hs) hn hdb hs hpl) fun σ H Q h => one hr σ H Q h
theorem pb_c2 {id : String} {r : List V → Hp → VK → Prop} {g : G2} (hc : CallR X (.builtin id) r) (hr : Op2 X.K (fun v w => r [v, w]) g kd) (hg : Gl X x) (hm : X.mg x = none) (hv : bootBuiltins x = some (.builtin id)) (ha : PEB X E lin k1 a fa) (hb : PEB X E lin k2 b fb) (hn : x ≠ "__name__" := by decide) (hdb : (x == ("__debug__" : Str)) = false := by decide)
    (hs : starEach [a, b] X.env = (false, eval a X.env) :: starEach [b] X.env := by rfl) (hs2 : starEach [b] X.env = (false, eval b X.env) :: starEach [] X.env := by rfl) (hpl : (backTo pos (starEach [b] X.env)).any (·.1) = false := by rfl) : PEB X E lin kd (.Call (.Name x p) [a, b] [] pos) (eBin g fa fb) :=
  impE (pe_callB hc hg hm hv (pa_cons ha (pa_cons hb pa_nil hs2) hs) hn hdb hs hpl) fun σ H Q h => two hr σ H Q h
end
def gLen : G1 := fun x h =>
  match x with
  | .str s => if s.length ≤ sizeLine then some (.int s.length) else none
  | x => (asSeq h x).map fun ts => .int ts.length
def gAbs : G1
  | .int i, _ => some (.int (i.natAbs : Int))
  | _, _ => none
def gInt : G1
  | .int i, _ => some (.int i)
  | .bl b, _ => some (.int (if b then 1 else 0))
  | .str s, _ => if s.length ≤ 640 then (PySem.intText? s).map T.int else none
  | _, _ => none
def gStr : G1
  | .int i, _ => if i.natAbs.log2 < 1920 then some (.str (toString i)) else none
  | .str s, _ => some (.str s)
  | _, _ => none
section
variable {K : PySem.W.Frag} {X : Cx}
theorem o1_len : Op1 K (fun v => (fun xs H Q => ∃ x n, xs = [x] ∧ LenV K x H n ∧ Q (.int n) H) [v]) gLen .fz := by
  intro G R H h x vx z Q g lx e k
  unfold gLen at e
  split at e
  · split at e
    · cases e
      exact ⟨vx, _, rfl, by rw [lx.str]; exact ⟨by assumption, rfl⟩, k _ G R H g .refl (.int _)⟩
    · cases e
  · obtain ⟨ts, e1, rfl⟩ := Option.map_eq_some_iff.mp e
    obtain ⟨a, xs, rfl, h1, h2⟩ := lx.asSeq g e1
    refine ⟨.ref a, ts.length, rfl, ?_, k _ G R H g .refl (.int _)⟩
    rcases h1 with h1 | h1
    · exact .inl ⟨xs, h1, h2.len⟩
    · exact .inr ⟨xs, h1, h2.len⟩
theorem o1_abs : Op1 K (fun v => (fun (xs : List V) H Q => ∃ i, xs = [.int i] ∧ Q (.int (if i < 0 then -i else i)) H) [v]) gAbs .fz := by
  intro G R H h x vx z Q g lx e k
  unfold gAbs at e
  split at e
  · rename_i i
    cases e
    refine ⟨i, by rw [lx.int], ?_⟩
    have q := k _ G R H g .refl (.int _)
    have e : (if i < 0 then -i else i) = (i.natAbs : Int) := by split <;> omega
    rw [e]; exact q
  · cases e
theorem call_intA : CallR X (.type "int") (fun xs H Q => ((∃ i, xs = [.int i] ∧ Q (.int i) H) ∨ ∃ k, xs = [.bl k] ∧ Q (.int (if k then 1 else 0)) H) ∨ ∃ a n, xs = [.str a] ∧ PySem.intText? a = some n ∧ a.length ≤ 640 ∧ Q (.int n) H) := call_int1.or call_int_str
theorem o1_int : Op1 K (fun v => (fun (xs : List V) H Q => ((∃ i, xs = [.int i] ∧ Q (.int i) H) ∨ ∃ k, xs = [.bl k] ∧ Q (.int (if k then 1 else 0)) H) ∨ ∃ a n, xs = [.str a] ∧ PySem.intText? a = some n ∧ a.length ≤ 640 ∧ Q (.int n) H) [v]) gInt .fz := by
  intro G R H h x vx z Q g lx e k
  unfold gInt at e
  split at e
  · cases e; exact .inl (.inl ⟨_, by rw [lx.int], k _ G R H g .refl (.int _)⟩)
  · cases e; exact .inl (.inr ⟨_, by rw [lx.bl], k _ G R H g .refl (.int _)⟩)
  · split at e
    · obtain ⟨n, e1, rfl⟩ := Option.map_eq_some_iff.mp e
      exact .inr ⟨_, n, by rw [lx.str], e1, by assumption, k _ G R H g .refl (.int _)⟩
    · cases e
  · cases e
theorem call_strA : CallR X (.type "str") (fun xs H Q => (∃ i, xs = [.int i] ∧ i.natAbs.log2 < 1920 ∧ Q (.str (toString i)) H) ∨ ∃ a, xs = [.str a] ∧ Q (.str a) H) := call_str_int.or SkE.call_str_str
theorem o1_str : Op1 K (fun v => (fun (xs : List V) H Q => (∃ i, xs = [.int i] ∧ i.natAbs.log2 < 1920 ∧ Q (.str (toString i)) H) ∨ ∃ a, xs = [.str a] ∧ Q (.str a) H) [v]) gStr .fz := by
  intro G R H h x vx z Q g lx e k
  unfold gStr at e
  split at e
  · split at e
    · cases e; exact .inl ⟨_, by rw [lx.int], by assumption, k _ G R H g .refl (.str _)⟩
    · cases e
  · cases e; exact .inr ⟨_, by rw [lx.str], k _ G R H g .refl (.str _)⟩
  · cases e
end
def gTuple : G1 := fun x h => (asSeq h x).map T.tup
def gList : G1 := fun x h => (asSeq h x).map T.lst
section
variable {K : PySem.W.Frag} {X : Cx}
theorem o1_tuple : Op1 K (fun v => (fun (xs : List V) H Q => ∃ p ys, xs = [.ref p] ∧ ((SqL K H p ys ∧ ∀ l, H l = none → Q (.ref l) (upd H l (.tup ys))) ∨ (SqT K H p ys ∧ Q (.ref p) H))) [v]) gTuple .fz := by
  intro G R H h x vx z Q g lx e k
  unfold gTuple at e
  obtain ⟨ts, e1, rfl⟩ := Option.map_eq_some_iff.mp e
  unfold asSeq at e1
  split at e1
  · cases e1
    obtain ⟨a, xs, rfl, h1, h2⟩ := lx.asT g rfl
    exact ⟨a, xs, rfl, .inr ⟨g.sqT h1, k _ G R H g .refl (.tup h1 h2)⟩⟩
  · obtain ⟨a, xs, rfl, h1, h2⟩ := lx.asL g e1
    refine ⟨a, xs, rfl, .inl ⟨h1, fun l nl => ?_⟩⟩
    obtain ⟨g2, e2⟩ := g.newG (o := .tup xs) nl
    exact k _ _ _ _ g2 e2 (.tup (SqT.of upd_same) (e2.rpl h2))
end
def gMax2 : G2 := gI okAll fun i j => .int (if j > i then j else i)
def gMin2 : G2 := gI okAll fun i j => .int (if j < i then j else i)
def truT : T → Option Bool
  | .bl b => some b
  | .int i => some (i != 0)
  | _ => none
def truL : List T → Option (List Bool)
  | [] => some []
  | t :: ts => match truT t, truL ts with
    | some b, some bs => some (b :: bs)
    | _, _ => none
def gAny : G1 := fun x h => ((asL h x).bind truL).map fun is => .bl (is.any id)
def gAll : G1 := fun x h => ((asL h x).bind truL).map fun is => .bl (is.all id)
theorem foldl_max_ge : ∀ (is : List Int) (i : Int), i ≤ is.foldl max i ∧ ∀ j ∈ is, j ≤ is.foldl max i
  | [], i => ⟨Int.le_refl _, fun j m => absurd m (by simp)⟩
  | x :: r, i => by
    obtain ⟨h1, h2⟩ := foldl_max_ge r (max i x)
    refine ⟨by show i ≤ r.foldl max (max i x); omega, fun j m => ?_⟩
    show j ≤ r.foldl max (max i x)
    rcases List.mem_cons.mp m with rfl | m
    · omega
    · exact h2 j m
section
variable {K : PySem.W.Frag} {X : Cx} {G : Hp} {R : List Addr}
theorem o2_max : Op2 K (fun v w => (fun (xs : List V) H Q => ∃ i j, xs = [.int i, .int j] ∧ Q (.int (if j > i then j else i)) H) [v, w]) gMax2 .fz := by
  intro G R H h x y vx vy z Q g lx ly e k
  obtain ⟨i, j, rfl, rfl, c, rfl⟩ := gI_inv e
  exact ⟨i, j, by rw [lx.int, ly.int], k _ G R H g .refl (.int _)⟩
theorem o2_min : Op2 K (fun v w => (fun (xs : List V) H Q => ∃ i j, xs = [.int i, .int j] ∧ Q (.int (if j < i then j else i)) H) [v, w]) gMin2 .fz := by
  intro G R H h x y vx vy z Q g lx ly e k
  obtain ⟨i, j, rfl, rfl, c, rfl⟩ := gI_inv e
  exact ⟨i, j, by rw [lx.int, ly.int], k _ G R H g .refl (.int _)⟩
/-- any, all of truths and ints -/
def truV : V → Option Bool
  | .bl b => some b
  | .int i => some (i != 0)
  | _ => none
theorem truthA {prog : Program} {w : World} {A : Around} {xs : List V} {its : List Value} {bs : List Bool} (r : Vals xs its) (e : xs.map truV = bs.map some) : TruthOf prog w A (fun i v => its.toArray[i]? = some v) (fun i => bs.getD i false) := fun i v s Q E hv hq => by
  have hv' : its[i]? = some v := by simpa using hv
  have hi : i < its.length := (List.getElem?_eq_some_iff.mp hv').1
  obtain ⟨x, hx⟩ : ∃ x, xs[i]? = some x := ⟨_, List.getElem?_eq_getElem (by rw [r.length]; exact hi)⟩
  obtain ⟨u, hu, ru⟩ := r.get hx
  rw [hv'] at hu; cases hu
  have hb : (xs.map truV)[i]? = some (truV x) := by rw [List.getElem?_map, hx]; rfl
  rw [e, List.getElem?_map] at hb
  obtain ⟨b, hb1, hb2⟩ := Option.map_eq_some_iff.mp hb
  have hg : bs.getD i false = b := by rw [List.getD_eq_getElem?_getD, hb1] <;> rfl
  have hq' : Q (bs.getD i false) s := hq
  rw [hg] at hq'
  cases x with
  | bl k =>
    cases ru
    cases hb2
    exact wpAny_truthy_bool hq'
  | int k =>
    obtain ⟨t, rfl⟩ := ru
    cases hb2
    exact PySem.P.truthy_int hq'
  | _ => cases hb2
def rAnyA (K : PySem.W.Frag) : List V → Hp → VK → Prop := fun vs H Q => ∃ (a : Addr) (xs : List V) (bs : List Bool), vs = [V.ref a] ∧ SqL K H a xs ∧ xs.map truV = bs.map some ∧ Q (.bl (bs.any id)) H
def rAllA (K : PySem.W.Frag) : List V → Hp → VK → Prop := fun vs H Q => ∃ (a : Addr) (xs : List V) (bs : List Bool), vs = [V.ref a] ∧ SqL K H a xs ∧ xs.map truV = bs.map some ∧ Q (.bl (bs.all id)) H
theorem tru_len {xs : List V} {its : List Value} {bs : List Bool} (r : Vals xs its) (e : xs.map truV = bs.map some) : its.length = bs.length := by
  have := congrArg List.length e
  rw [List.length_map, List.length_map, r.length] at this
  exact this
theorem cr_anyA (hc : X.calm = true) : CallR X (.builtin "any") (rAnyA X.K) := by
  intro pins s σ H vs us Q I r h
  obtain ⟨a, xs, bs, rfl, hs, hb, q⟩ := h
  obtain ⟨its, rv, hl, _⟩ := I.list hs
  rw [Vals.ref1 r]
  refine call_any_walk (iter_any hl.isList fun s₂ e2 st hne => ?_)
  subst e2
  refine ⟨_, _, _, _, _, _, _, rfl, Walks.list (A := X.A.in1) (I.ok.hd hc) _ a hne its.toArray, st, truthA rv hb, fun h' tk hk => ?_⟩
  refine ⟨.bl _, H, I.kept fun b o eo => hk b o (fun hmem => ?_) (Heap.get?_push_of_some _ eo), ?_, q⟩
  · rcases List.mem_cons.mp hmem with e1 | hmem
    · exact absurd (e1 ▸ Heap.lt_size eo) (Nat.lt_irrefl _)
    · cases hmem
  · show Value.bool _ = Value.bool _
    rw [← L2.any_range, List.size_toArray, tru_len rv hb]
theorem cr_allA (hc : X.calm = true) : CallR X (.builtin "all") (rAllA X.K) := by
  intro pins s σ H vs us Q I r h
  obtain ⟨a, xs, bs, rfl, hs, hb, q⟩ := h
  obtain ⟨its, rv, hl, _⟩ := I.list hs
  rw [Vals.ref1 r]
  refine call_all_walk (iter_any hl.isList fun s₂ e2 st hne => ?_)
  subst e2
  refine ⟨_, _, _, _, _, _, _, rfl, Walks.list (A := X.A.in1) (I.ok.hd hc) _ a hne its.toArray, st, truthA rv hb, fun h' tk hk => ?_⟩
  refine ⟨.bl _, H, I.kept fun b o eo => hk b o (fun hmem => ?_) (Heap.get?_push_of_some _ eo), ?_, q⟩
  · rcases List.mem_cons.mp hmem with e1 | hmem
    · exact absurd (e1 ▸ Heap.lt_size eo) (Nat.lt_irrefl _)
    · cases hmem
  · show Value.bool _ = Value.bool _
    rw [← L2.all_range, List.size_toArray, tru_len rv hb]
theorem truL_rp : ∀ {ts : List T} {vs : List V} {is : List Bool}, RpL K G R ts vs → truL ts = some is → vs.map truV = is.map some
  | _, _, _, .nil, e => by cases e; rfl
  | _, _, _, .cons (t := t) (ts := ts) h k, e => by
    have e' : (match truT t, truL ts with | some b, some bs => some (b :: bs) | _, _ => none) = some _ := e
    split at e'
    · rename_i b bs e1 e2
      cases e'
      rw [List.map_cons, List.map_cons, truL_rp k e2]
      cases h <;> cases e1 <;> rfl
    · cases e'
theorem o1_any : Op1 K (fun v => rAnyA K [v]) gAny .fz := by
  intro G R H h x vx z Q g lx e k
  unfold gAny at e
  obtain ⟨is, e1, rfl⟩ := Option.map_eq_some_iff.mp e
  obtain ⟨ts, e3, e4⟩ := Option.bind_eq_some_iff.mp e1
  obtain ⟨a, xs, rfl, h1, h2⟩ := lx.asL g e3
  exact ⟨a, xs, is, rfl, h1, truL_rp h2 e4, k _ G R H g .refl (.bl _)⟩
theorem o1_all : Op1 K (fun v => rAllA K [v]) gAll .fz := by
  intro G R H h x vx z Q g lx e k
  unfold gAll at e
  obtain ⟨is, e1, rfl⟩ := Option.map_eq_some_iff.mp e
  obtain ⟨ts, e3, e4⟩ := Option.bind_eq_some_iff.mp e1
  obtain ⟨a, xs, rfl, h1, h2⟩ := lx.asL g e3
  exact ⟨a, xs, is, rfl, h1, truL_rp h2 e4, k _ G R H g .refl (.bl _)⟩
end
def tyN (h : IH) : T → Option String
  | .non => some "NoneType"
  | .bl _ => some "bool"
  | .int _ => some "int"
  | .str _ => some "str"
  | .tup _ => some "tuple"
  | .lst _ => some "list"
  | .box n => match h[n]? with
    | some (.lst _) => some "list"
    | _ => none
/-- the types that are asked for: int bool str tuple list -/
def isiB (a b : String) : Bool := a == b || (a == "bool" && b == "int")
def gIsi (ns : List String) : G1 := fun x h => (tyN h x).map fun a => .bl (ns.any fun b => isiB a b)
def askT : List String := ["int", "bool", "str", "tuple", "list"]
def haveT : List String := ["NoneType", "bool", "int", "str", "tuple", "list"]
theorem isi_all : (haveT.all fun a => askT.all fun b => kitB a b == some (isiB a b)) = true := by decide +kernel
theorem isi_one {K : PySem.W.Frag} {a b : String} (ha : a ∈ haveT) (hb : b ∈ askT) : PySem.W.kitOne K (.type a) (.type b) = some (isiB a b) := by
  have h := List.all_eq_true.mp isi_all a ha
  have h2 := List.all_eq_true.mp h b hb
  exact kit_ty (beq_iff_eq.mp h2)
section
variable {K : PySem.W.Frag} {G : Hp} {R : List Addr} {H : Hp} {h : IH}
theorem tyX_L {a : Addr} {xs : List V} (q : SqL K H a xs) : TyX K H (.ref a) (.type "list") := by
  rcases q with (q | ⟨o, q⟩) | ⟨o, its, n, q, c, _⟩
  · exact .base (.lst q)
  · exact .base (.frz q)
  · exact .kList q c
theorem tyX_T {a : Addr} {xs : List V} (q : SqT K H a xs) : TyX K H (.ref a) (.type "tuple") := by
  rcases q with (q | ⟨o, q⟩) | ⟨o, its, n, q, c, _⟩
  · exact .base (.tup q)
  · exact .fTuple q
  · exact .kTuple q c
theorem Live.ty (g : Gd K G R H h) {t : T} {v : V} {a : String} (r : Live K G R H t v) (e : tyN h t = some a) : TyX K H v (.type a) ∧ a ∈ haveT := by
  rcases r with r | ⟨ts, p, xs, rfl, rfl, h3, h4, h5⟩
  · cases r with
    | non => cases e; exact ⟨.base .non, by decide⟩
    | bl b => cases e; exact ⟨.base (.bl b), by decide⟩
    | int b => cases e; exact ⟨.base (.int b), by decide⟩
    | str b => cases e; exact ⟨.base (.str b), by decide⟩
    | tup q k => cases e; exact ⟨tyX_T (g.sqT q), by decide⟩
    | lst q k => cases e; exact ⟨tyX_L (g.sqL q), by decide⟩
    | @box p n q =>
      have e' : (match h[n]? with | some (.lst _) => some "list" | _ => none) = some a := e
      split at e'
      · rename_i us eq
        cases e'
        obtain ⟨xs, h1, h2⟩ := g.cell n p _ q eq
        exact ⟨tyX_L (SqL.of h1), by decide⟩
      · cases e'
  · cases e
    exact ⟨tyX_L (SqL.of h3), by decide⟩
end
section
variable {X : Cx} {E : WX} {lin : List Nat} {kd k1 k2 k3 : Kd} {e a b c : Expr} {fa fb fc : SE} {pos p p1 p2 p3 p4 : Pos} {x1 : Nat}
theorem pb_isi {y : Str} {n : String} (hg : Gl X "isinstance") (hm : X.mg "isinstance" = none) (hgy : Gl X y) (hmy : X.mg y = none) (hvy : bootBuiltins y = some (.type n)) (hn : n ∈ askT) (ha : PEB X E lin k1 a fa) (hny : y ≠ "__name__" := by decide) (hdy : (y == ("__debug__" : Str)) = false := by decide)
    (hs : starEach [a, .Name y p1] X.env = (false, eval a X.env) :: starEach [.Name y p1] X.env := by rfl) (hs2 : starEach [.Name y p1] X.env = (false, eval (.Name y p1) X.env) :: starEach [] X.env := by rfl) (hpl : (backTo pos (starEach [.Name y p1] X.env)).any (·.1) = false := by rfl) :
    PEB X E lin .fz (.Call (.Name "isinstance" p) [a, .Name y p1] [] pos) (eUn (gIsi [n]) fa) :=
  impE (pe_callB call_isi hg hm PyProof.Rows.boot_isinstance (pa_cons ha (pa_cons (pe_bltn (v := .ty n) hgy hmy hvy rfl hny hdy) pa_nil hs2) hs) (by decide) (by decide) hs hpl) fun σ H Q ⟨G, R, τ, h, N0, gd, fr, o⟩ => by
    refine lE.then gd fr o fun x vx h1 G1 R1 H1 g1 e1 f1 r1 o1 => ?_
    cases q : tyN h1 x with
    | none => unfold gIsi at o1; rw [q] at o1; exact o1.elim
    | some t =>
      obtain ⟨ty, ht⟩ := (Res.live r1).ty g1 q
      unfold gIsi at o1
      rw [q] at o1
      refine ⟨vx, .ty n, .type t, .type n, isiB t n, rfl, .ty n, ty, isi_one ht hn, ?_⟩
      refine o1 G1 R1 H1 g1 .refl _ ?_
      have q2 : ([n].any fun b => isiB t b) = isiB t n := by rw [List.any_cons, List.any_nil, Bool.or_false]
      show Rp X.K G1 R1 (.bl ([n].any fun b => isiB t b)) _
      rw [q2]
      exact .bl _
end
abbrev SF := List T → IH → Rs T
def spB (K : PySem.W.Frag) (mg : Str → Option Value) (rk : Kd) (F : SF) : Sp := fun vs H Q E => ∃ G R ts h, Gd K G R H h ∧ RpL K G R ts vs ∧ Out K mg E G R H (F ts h) fun t G' R' H' => ∀ v, Res K rk H t v G' R' H' → Q v H'
structure CalB (P : Program) (w : World) (K : PySem.W.Frag) (mg : Str → Option Value) (base : Heap) (k : Nat) (x : Str) (rk : Kd) (F : SF) : Prop where
  ex : ∃ (f : Addr) (fd : FuncData) (ps : List Str), FnOk P w K mg base (L2N.CX P w) k f fd ps (spB K mg rk F) ∧ mg x = some (.ref f) ∧ PySem.W.keepIn K (.ref f) = true ∧ Binds K fd ps []
def eCall (F : SF) (f : SA) : SE := fun τ h => (f τ h).bind fun ts h1 => F ts h1
section
variable {X : Cx} {E : WX} {lin : List Nat} {kd k1 k2 k3 : Kd} {e a b c : Expr} {es : List Expr} {fs : SA} {fa fb fc : SE} {pos p p1 p2 p3 p4 : Pos} {x : Str} {k j n : Nat} {rk : Kd} {F : SF}
theorem pb_call (C : CalB X.prog X.w X.K X.mg X.base k x rk F) (hr : Room j X.A) (hk : k ≤ j) (tk : L2N.Takes X E) (hg : Gl X x) (ha : PAB X E lin (a :: es) fs) (hdb : (x == ("__debug__" : Str)) = false := by decide)
    (he : starEach (a :: es) X.env = (false, eval a X.env) :: starEach es X.env := by rfl) (hpl : (backTo pos (starEach es X.env)).any (·.1) = false := by rfl) : PEB X E lin rk (.Call (.Name x p) (a :: es) [] pos) (eCall F fs) := by
  obtain ⟨f, fd, ps, ok, hm, kp, hb⟩ := C.ex
  refine impE (pe_callSD (E := fun σ c d H => E c d σ H) ok (hr.mono hk) hg hm kp hb .nil (fun σ => L2N.passAt tk σ) ha hdb he hpl) fun σ H Q ⟨G, R, τ, h, N0, gd, fr, o⟩ => ?_
  refine lA.then gd fr o fun ts vs h1 G1 R1 H1 g1 e1 f1 r1 o1 => ?_
  refine ⟨G1, R1, ts, h1, g1, by rw [List.append_nil]; exact r1, ?_⟩
  cases q2 : F ts h1 with
  | ok t h' => rw [q2] at o1; exact fun G' R' H' g' e' v r => o1 G' R' H' g' e' v (Res.back g1 e1 r)
  | exc x h' => rw [q2] at o1; exact o1
  | no => rw [q2] at o1; exact o1
end
end GB
namespace GB
open PySem PySem.Spec PyProof.Rows L2
structure ItOk (K : PySem.W.Frag) (G : Hp) (R : List Addr) (J : It) (ts : List T) : Prop where
  go : ∀ i G1 R1 H1 h1, Gd K G1 R1 H1 h1 → Same G G1 → R <+: R1 → i < ts.length → J.go i H1
  yld : ∀ i t G1 R1 H1 h1 x H2, Gd K G1 R1 H1 h1 → Same G G1 → R <+: R1 → ts[i]? = some t → J.yld i H1 x H2 → ∃ G2, Gd K G2 R1 H2 h1 ∧ Ext G1 R1 H1 G2 R1 H2 ∧ Rp K G2 R1 t x
  stop : ∀ i G1 R1 H1 h1, Gd K G1 R1 H1 h1 → Same G G1 → R <+: R1 → ts.length ≤ i → J.stop i H1
abbrev SI := Ev → IH → Rs (List T)
def lI (K : PySem.W.Frag) (mg : Str → Option Value) (E : WX) (lin : List Nat) (f : SI) : TI := fun σ H Q =>
  ∃ G R τ h N0, Gd K G R H h ∧ Fr K lin G R H τ σ N0 ∧ Out K mg (fun c d H' => E c d σ H') G R H (f τ h) fun ts G' R' H' => ∀ J, ItOk K G' R' J ts → Q J H'
def PIB (X : Cx) (E : WX) (lin : List Nat) (tg e : Expr) (f : SI) : Prop := PI X tg e (lI X.K X.mg E lin f)
theorem impI {X : Cx} {tg e : Expr} {t t' : TI} (h : PI X tg e t) (w : ∀ σ H Q, t' σ H Q → t σ H Q) : PI X tg e t' := ⟨fun pins s σ H Q I q => h.run pins s σ H Q I (w σ H Q q)⟩
def iMap (f : SE) (g : T → IH → Option (List T)) : SI := fun τ h => (f τ h).bind fun x h1 => Rs.of (g x h1) h1
def gL : T → IH → Option (List T)
  | .lst ts, _ => some ts
  | _, _ => none
def gT : T → IH → Option (List T)
  | .tup ts, _ => some ts
  | _, _ => none
def gS : T → IH → Option (List T)
  | .str s, _ => some (s.cps.toList.map fun c => .str ⟨#[c]⟩)
  | _, _ => none
def enumL (ts : List T) : List T := ts.zipIdx.map fun p => .tup [.int (p.2 : Int), p.1]
def gEnL : T → IH → Option (List T)
  | .lst ts, _ => some (enumL ts)
  | _, _ => none
def rngL (lo : Int) (n : Nat) (c : Int) : List T := (List.range n).map fun (k : Nat) => T.int (lo + (k : Int) * c)
def okR (i : Int) : Bool := decide (-(2 ^ 62) ≤ i ∧ i < 2 ^ 62)
def iR1 (f : SE) : SI := fun τ h => (f τ h).bind fun x h1 =>
  match x with
  | .int j => if okR j = true then .ok (rngL 0 j.toNat 1) h1 else .no
  | _ => .no
def iR2 (f g : SE) : SI := fun τ h => (f τ h).bind fun x h1 => (g τ h1).bind fun y h2 =>
  match x, y with
  | .int i, .int j => if (okR i && okR j) = true then .ok (rngL i (j - i).toNat 1) h2 else .no
  | _, _ => .no
def iR3 (f g k : SE) : SI := fun τ h => (f τ h).bind fun x h1 => (g τ h1).bind fun y h2 => (k τ h2).bind fun z h3 =>
  match x, y, z with
  | .int i, .int j, .int (-1) => if (okR i && okR j) = true then .ok (rngL i (i - j).toNat (-1)) h3 else .no
  | _, _, _ => .no
def zipT (xs ys : List T) : List T := List.zipWith (fun x y => .tup [x, y]) xs ys
def iZ (g1 g2 : T → IH → Option (List T)) (f g : SE) : SI := fun τ h => (f τ h).bind fun x h1 => (g τ h1).bind fun y h2 =>
  match g1 x h2, g2 y h2 with
  | some xs, some ys => .ok (zipT xs ys) h2
  | _, _ => .no
section
variable {X : Cx} {E : WX} {lin : List Nat} {tg a b c : Expr} {fa fb fc : SE} {p pos tpos : Pos} {elts : List Expr} {kk : Nat}
variable {K : PySem.W.Frag} {G : Hp} {R : List Addr} {H : Hp} {h : IH}
theorem it_list {q : Addr} {xs : List V} {ts : List T} (hq : SqL K G q xs) (r : RpL K G R ts xs) : ItOk K G R (Itl K q) ts where
  go := fun i G1 R1 H1 h1 g s p hi => by
    obtain ⟨x, hx⟩ : ∃ x, xs[i]? = some x := ⟨_, List.getElem?_eq_getElem (by rw [← r.len]; exact hi)⟩
    exact ⟨xs, x, g.sqL (same_sqL s hq), hx⟩
  yld := fun i t G1 R1 H1 h1 x H2 g s p ht y => by
    obtain ⟨rfl, y⟩ := y
    obtain ⟨v, hv, rv⟩ := r.get ht
    have e := (y xs (g.sqL (same_sqL s hq))).symm.trans hv
    cases e
    exact ⟨G1, g, .refl, rv.mono s p⟩
  stop := fun i G1 R1 H1 h1 g s p hi => ⟨xs, g.sqL (same_sqL s hq), by rw [← r.len]; exact hi⟩
theorem it_tup {q : Addr} {xs : List V} {ts : List T} (hq : SqT K G q xs) (r : RpL K G R ts xs) : ItOk K G R (Itt K q) ts where
  go := fun i G1 R1 H1 h1 g s p hi => by
    obtain ⟨x, hx⟩ : ∃ x, xs[i]? = some x := ⟨_, List.getElem?_eq_getElem (by rw [← r.len]; exact hi)⟩
    exact ⟨xs, x, g.sqT (same_sqT s hq), hx⟩
  yld := fun i t G1 R1 H1 h1 x H2 g s p ht y => by
    obtain ⟨rfl, y⟩ := y
    obtain ⟨v, hv, rv⟩ := r.get ht
    have e := (y xs (g.sqT (same_sqT s hq))).symm.trans hv
    cases e
    exact ⟨G1, g, .refl, rv.mono s p⟩
  stop := fun i G1 R1 H1 h1 g s p hi => ⟨xs, g.sqT (same_sqT s hq), by rw [← r.len]; exact hi⟩
theorem rngL_get {lo c : Int} {n i : Nat} {t : T} (h : (rngL lo n c)[i]? = some t) : i < n ∧ t = .int (lo + (i : Int) * c) := by
  unfold rngL at h
  rw [List.getElem?_map] at h
  obtain ⟨k, hk, rfl⟩ := Option.map_eq_some_iff.mp h
  have hi : i < n := by
    have := (List.getElem?_eq_some_iff.mp hk).1
    rw [List.length_range] at this; exact this
  rw [List.getElem?_range hi] at hk
  cases hk
  exact ⟨hi, rfl⟩
theorem rngL_len (lo c : Int) (n : Nat) : (rngL lo n c).length = n := by unfold rngL; rw [List.length_map, List.length_range]
theorem it_rng {lo : Int} {n : Nat} : ItOk K G R (Itr lo n) (rngL lo n 1) where
  go := fun i G1 R1 H1 h1 g s p hi => by rw [rngL_len] at hi; exact hi
  yld := fun i t G1 R1 H1 h1 x H2 g s p ht y => by
    obtain ⟨rfl, rfl⟩ := y
    obtain ⟨_, rfl⟩ := rngL_get ht
    rw [Int.mul_one]
    exact ⟨G1, g, .refl, .int _⟩
  stop := fun i G1 R1 H1 h1 g s p hi => by rw [rngL_len] at hi; exact hi
theorem it_str {x : Str} : ItOk K G R (Its x) (x.cps.toList.map fun c => .str ⟨#[c]⟩) where
  go := fun i G1 R1 H1 h1 g s p hi => show i < x.cps.size by simpa using hi
  yld := fun i t G1 R1 H1 h1 y H2 g s p ht q => by
    obtain ⟨rfl, c, hc, rfl⟩ := q
    rw [List.getElem?_map] at ht
    obtain ⟨k, hk, rfl⟩ := Option.map_eq_some_iff.mp ht
    have e : x.cps.toList[i]? = some c := by simpa using hc
    rw [e] at hk
    cases hk
    exact ⟨G1, g, .refl, .str _⟩
  stop := fun i G1 R1 H1 h1 g s p hi => show x.cps.size ≤ i by simpa using hi
theorem enumL_get {ts : List T} {i : Nat} {t : T} (h : (enumL ts)[i]? = some t) : ∃ u, ts[i]? = some u ∧ t = .tup [.int (i : Int), u] := by
  unfold enumL at h
  rw [List.getElem?_map] at h
  obtain ⟨p, hp, rfl⟩ := Option.map_eq_some_iff.mp h
  rw [List.getElem?_zipIdx] at hp
  obtain ⟨u, hu, rfl⟩ := Option.map_eq_some_iff.mp hp
  exact ⟨u, hu, by simp⟩
theorem enumL_len (ts : List T) : (enumL ts).length = ts.length := by unfold enumL; rw [List.length_map, List.length_zipIdx]
theorem it_enum {q : Addr} {xs : List V} {ts : List T} (hq : SqL K G q xs) (r : RpL K G R ts xs) : ItOk K G R (Ite K q) (enumL ts) where
  go := fun i G1 R1 H1 h1 g s p hi => by
    rw [enumL_len] at hi
    obtain ⟨x, hx⟩ : ∃ x, xs[i]? = some x := ⟨_, List.getElem?_eq_getElem (by rw [← r.len]; exact hi)⟩
    exact ⟨xs, x, g.sqL (same_sqL s hq), hx⟩
  yld := fun i t G1 R1 H1 h1 x H2 g s p ht y => by
    obtain ⟨T, v, rfl, nT, rfl, y⟩ := y
    obtain ⟨u, hu, rfl⟩ := enumL_get ht
    obtain ⟨w, hw, rw'⟩ := r.get hu
    have e := (y xs (g.sqL (same_sqL s hq))).symm.trans hw
    cases e
    obtain ⟨g2, e2⟩ := g.newG (o := .tup [.int (i : Nat), v]) nT
    exact ⟨_, g2, e2, .tup (SqT.of upd_same) (.cons (.int _) (.cons (e2.rp (rw'.mono s p)) .nil))⟩
  stop := fun i G1 R1 H1 h1 g s p hi => ⟨xs, g.sqL (same_sqL s hq), by rw [← r.len]; rw [enumL_len] at hi; exact hi⟩
theorem pib_list (ha : PEB X E lin .fz a fa) : PIB X E lin tg a (iMap fa gL) := impI (pi_list ha) fun σ H Q ⟨G, R, τ, h, N0, gd, fr, o⟩ => by
  refine lE.then gd fr o fun x vx h1 G1 R1 H1 g1 e1 f1 r1 o1 => ?_
  unfold gL at o1
  split at o1
  · cases r1 with
    | lst q k => exact ⟨_, rfl, ⟨_, g1.sqL q⟩, o1 G1 R1 H1 g1 .refl _ (it_list q k)⟩
  · exact o1.elim
theorem pib_tup (ha : PEB X E lin .fz a fa) : PIB X E lin tg a (iMap fa gT) := impI (pi_tup ha) fun σ H Q ⟨G, R, τ, h, N0, gd, fr, o⟩ => by
  refine lE.then gd fr o fun x vx h1 G1 R1 H1 g1 e1 f1 r1 o1 => ?_
  unfold gT at o1
  split at o1
  · cases r1 with
    | tup q k => exact ⟨_, rfl, ⟨_, g1.sqT q⟩, o1 G1 R1 H1 g1 .refl _ (it_tup q k)⟩
  · exact o1.elim
theorem pib_str (ha : PEB X E lin .fz a fa) : PIB X E lin tg a (iMap fa gS) := impI (pi_str ha) fun σ H Q ⟨G, R, τ, h, N0, gd, fr, o⟩ => by
  refine lE.then gd fr o fun x vx h1 G1 R1 H1 g1 e1 f1 r1 o1 => ?_
  unfold gS at o1
  split at o1
  · cases r1 with
    | str => exact ⟨_, rfl, o1 G1 R1 H1 g1 .refl _ it_str⟩
  · exact o1.elim
theorem okR_of {i : Int} (h : okR i = true) : -(2 ^ 62) ≤ i ∧ i < 2 ^ 62 := by unfold okR at h; exact of_decide_eq_true h
theorem pib_r1 (hg : Gl X "range") (hm : X.mg "range" = none) (ha : PEB X E lin .fz a fa) (hs : starEach [a] X.env = [(false, eval a X.env)] := by rfl) : PIB X E lin tg (.Call (.Name "range" p) [a] [] pos) (iR1 fa) :=
  impI (pi_range1 hg hm (pa_cons ha pa_nil hs) hs) fun σ H Q ⟨G, R, τ, h, N0, gd, fr, o⟩ => by
    refine lE.then gd fr o fun x vx h1 G1 R1 H1 g1 e1 f1 r1 o1 => ?_
    split at o1
    · split at o1
      · rename_i j hk
        obtain ⟨q1, q2⟩ := okR_of hk
        cases r1
        exact ⟨j, rfl, q1, q2, o1 G1 R1 H1 g1 .refl _ it_rng⟩
      · exact o1.elim
    · exact o1.elim
theorem pib_enL (hg : Gl X "enumerate") (hm : X.mg "enumerate" = none) (ha : PEB X E lin .fz a fa) (hs : starEach [a] X.env = [(false, eval a X.env)] := by rfl) : PIB X E lin (.Tuple elts kk tpos) (.Call (.Name "enumerate" p) [a] [] pos) (iMap fa gEnL) :=
  impI (pi_enum hg hm (pa_cons ha pa_nil hs) hs) fun σ H Q ⟨G, R, τ, h, N0, gd, fr, o⟩ => by
    refine lE.then gd fr o fun x vx h1 G1 R1 H1 g1 e1 f1 r1 o1 => ?_
    unfold gEnL at o1
    split at o1
    · cases r1 with
      | lst q k => exact ⟨_, _, rfl, g1.sqL q, o1 G1 R1 H1 g1 .refl _ (it_enum q k)⟩
    · exact o1.elim
end
end GB
namespace GB
open PySem PySem.Spec PyProof.Rows L2
section
variable {K : PySem.W.Frag} {lin : List Nat} {G : Hp} {R : List Addr} {H : Hp} {h : IH} {τ : Ev} {σ : L2.St} {N0 : Addr → Prop} {i : Nat} {t : T} {v : V}
theorem get_set {α : Type} {l : List α} {i j : Nat} {a b : α} (e : (l.set i a)[j]? = some b) : (j = i ∧ b = a ∧ i < l.length) ∨ (j ≠ i ∧ l[j]? = some b) := by
  by_cases q : j = i
  · subst q
    by_cases hl : j < l.length
    · rw [List.getElem?_set_self hl] at e; cases e; exact .inl ⟨rfl, rfl, hl⟩
    · rw [List.getElem?_eq_none (by simpa using hl)] at e; cases e
  · rw [List.getElem?_set_ne (Ne.symm q)] at e; exact .inr ⟨q, e⟩
theorem Fr.put (f : Fr K lin G R H τ σ N0) (n : i ∉ lin) (r : Rp K G R t v) : Fr K lin G R H (τ.set i (some t)) (σ.set i (some v)) N0 where
  slot := fun j u e m => by
    rcases get_set e with ⟨rfl, q, hl⟩ | ⟨q, e⟩
    · cases q
      exact ⟨v, by rw [List.getElem?_set_self (by rw [← f.len]; exact hl)], r⟩
    · obtain ⟨w, h1, h2⟩ := f.slot j u e m
      exact ⟨w, by rw [List.getElem?_set_ne (Ne.symm q)]; exact h1, h2⟩
  own := fun j u e m => by
    rcases get_set e with ⟨rfl, q, hl⟩ | ⟨q, e⟩
    · exact absurd m n
    · obtain ⟨ts, a, xs, h1, h2, h3⟩ := f.own j u e m
      exact ⟨ts, a, xs, h1, by rw [List.getElem?_set_ne (Ne.symm q)]; exact h2, h3⟩
  apart := fun j k u w a e1 e2 m1 m2 s1 s2 => by
    rcases get_set e1 with ⟨rfl, q, hl⟩ | ⟨q1, e1⟩
    · exact absurd m1 n
    · rcases get_set e2 with ⟨rfl, q, hl⟩ | ⟨q2, e2⟩
      · exact absurd m2 n
      · rw [List.getElem?_set_ne (Ne.symm q1)] at s1
        rw [List.getElem?_set_ne (Ne.symm q2)] at s2
        exact f.apart j k u w a e1 e2 m1 m2 s1 s2
  len := by rw [List.length_set, List.length_set]; exact f.len
theorem Fr.putO (f : Fr K lin G R H τ σ N0) {a : Addr} {ts : List T} {xs : List V} (ha : H a = some (.lst xs)) (hg : G a = none) (hr : a ∉ R) (hn : N0 a) (r : RpL K G R ts xs)
    (ap : ∀ j u b, τ[j]? = some (some u) → j ∈ lin → σ[j]? = some (some (.ref b)) → b ≠ a) : Fr K (i :: lin) G R H (τ.set i (some (.lst ts))) (σ.set i (some (.ref a))) N0 where
  slot := fun j u e m => by
    rcases get_set e with ⟨rfl, q, hl⟩ | ⟨q, e⟩
    · exact absurd List.mem_cons_self m
    · obtain ⟨w, h1, h2⟩ := f.slot j u e fun z => m (List.mem_cons_of_mem _ z)
      exact ⟨w, by rw [List.getElem?_set_ne (Ne.symm q)]; exact h1, h2⟩
  own := fun j u e m => by
    rcases get_set e with ⟨rfl, q, hl⟩ | ⟨q, e⟩
    · cases q
      exact ⟨ts, a, xs, rfl, by rw [List.getElem?_set_self (by rw [← f.len]; exact hl)], ha, hg, hr, hn, r⟩
    · have m' : j ∈ lin := (List.mem_cons.mp m).elim (fun z => absurd z q) id
      obtain ⟨us, b, ys, h1, h2, h3⟩ := f.own j u e m'
      exact ⟨us, b, ys, h1, by rw [List.getElem?_set_ne (Ne.symm q)]; exact h2, h3⟩
  apart := fun j k u w b e1 e2 m1 m2 s1 s2 => by
    rcases get_set e1 with ⟨q1, _, hl⟩ | ⟨q1, e1⟩
    · rcases get_set e2 with ⟨q2, _, hl⟩ | ⟨q2, e2⟩
      · rw [q1, q2]
      · rw [q1, List.getElem?_set_self (by rw [← f.len]; exact hl)] at s1
        rw [List.getElem?_set_ne (Ne.symm q2)] at s2
        cases s1
        exact absurd rfl (ap k w a e2 ((List.mem_cons.mp m2).elim (fun z => absurd z q2) id) s2)
    · rcases get_set e2 with ⟨q2, _, hl⟩ | ⟨q2, e2⟩
      · rw [q2, List.getElem?_set_self (by rw [← f.len]; exact hl)] at s2
        rw [List.getElem?_set_ne (Ne.symm q1)] at s1
        cases s2
        exact absurd rfl (ap j u a e1 ((List.mem_cons.mp m1).elim (fun z => absurd z q1) id) s1)
      · rw [List.getElem?_set_ne (Ne.symm q1)] at s1
        rw [List.getElem?_set_ne (Ne.symm q2)] at s2
        exact f.apart j k u w b e1 e2 ((List.mem_cons.mp m1).elim (fun z => absurd z q1) id) ((List.mem_cons.mp m2).elim (fun z => absurd z q2) id) s1 s2
  len := by rw [List.length_set, List.length_set]; exact f.len
/-- a list that stands by itself is written -/
theorem Gd.wr (g : Gd K G R H h) {a : Addr} {o : HO} (hg : G a = none) (hr : a ∉ R) : Gd K G R (upd H a o) h where
  same := fun b u e => by
    have q : b ≠ a := fun z => by subst z; rw [hg] at e; cases e
    rw [upd_ne q]; exact g.same _ _ e
  off := g.off
  nd := g.nd
  len := g.len
  cell := fun n b c e1 e2 => by
    have qb : b ≠ a := fun z => by subst z; exact hr (List.mem_of_getElem? e1)
    exact (g.cell n b c e1 e2).mono (fun _ _ e => e) (List.prefix_refl _) fun o h1 => by rw [upd_ne qb]; exact h1
theorem Ext.wr {G' : Hp} {R' : List Addr} {H' : Hp} (e : Ext G R H G' R' H') {a : Addr} {o : HO} (n : H a = none) : Ext G R H G' R' (upd H' a o) where
  same := e.same
  pre := e.pre
  kept := fun b u q m => by rw [upd_ne (ne_of_none q n)]; exact e.kept b u q m
  gnew := e.gnew
  rnew := e.rnew
theorem Fr.wr (f : Fr K lin G R H τ σ N0) (m : i ∈ lin) {a : Addr} {us : List T} {ys : List V} (ht : ∃ u, τ[i]? = some (some u)) (hs : σ[i]? = some (some (.ref a))) (hg : G a = none) (hr : a ∉ R) (hn : N0 a) (r : RpL K G R us ys) :
    Fr K lin G R (upd H a (.lst ys)) (τ.set i (some (.lst us))) σ N0 where
  slot := fun j u e n => by
    rcases get_set e with ⟨rfl, _, _⟩ | ⟨q, e⟩
    · exact absurd m n
    · exact f.slot j u e n
  own := fun j u e mj => by
    rcases get_set e with ⟨rfl, q, hl⟩ | ⟨q, e⟩
    · cases q
      exact ⟨us, a, ys, rfl, hs, upd_same, hg, hr, hn, r⟩
    · obtain ⟨ts, b, xs, h1, h2, h3, h4⟩ := f.own j u e mj
      have nb : b ≠ a := fun z => by
        subst z
        obtain ⟨w, hw⟩ := ht
        exact q (f.apart j i u w b e hw mj m h2 hs)
      exact ⟨ts, b, xs, h1, h2, by rw [upd_ne nb]; exact h3, h4⟩
  apart := fun j k u w b e1 e2 m1 m2 s1 s2 => by
    have g1 : ∃ u, τ[j]? = some (some u) := by
      rcases get_set e1 with ⟨rfl, _, _⟩ | ⟨_, e⟩
      · exact ht
      · exact ⟨u, e⟩
    have g2 : ∃ u, τ[k]? = some (some u) := by
      rcases get_set e2 with ⟨rfl, _, _⟩ | ⟨_, e⟩
      · exact ht
      · exact ⟨w, e⟩
    obtain ⟨u', g1⟩ := g1
    obtain ⟨w', g2⟩ := g2
    exact f.apart j k u' w' b g1 g2 m1 m2 s1 s2
  len := by rw [List.length_set]; exact f.len
/-- the first of lin goes into the ground -/
theorem Fr.frz1 (f : Fr K (i :: lin) G R H τ σ N0) (g : Gd K G R H h) : ∃ G', Gd K G' R H h ∧ Same G G' ∧ (∀ b, G b = none → G' b ≠ none → N0 b) ∧ Fr K lin G' R H τ σ N0 := by
  by_cases mi : i ∈ lin
  · refine ⟨G, g, fun _ _ e => e, fun b n z => absurd n z, ⟨fun j u e n => f.slot j u e fun z => n ((List.mem_cons.mp z).elim (fun q => q ▸ mi) id), fun j u e m => f.own j u e (List.mem_cons_of_mem _ m), fun j k u w a e1 e2 m1 m2 => f.apart j k u w a e1 e2 (List.mem_cons_of_mem _ m1) (List.mem_cons_of_mem _ m2), f.len⟩⟩
  · by_cases ht : ∃ u, τ[i]? = some (some u)
    · obtain ⟨u, hu⟩ := ht
      obtain ⟨ts, a, xs, h1, h2, h3, h4, h5, h6, h7⟩ := f.own i u hu List.mem_cons_self
      obtain ⟨g2, s2⟩ := g.freeze h3 h4 h5
      refine ⟨_, g2, s2, fun b n z => ?_, ⟨fun j w e n => ?_, fun j w e m => ?_, fun j k w w' b e1 e2 m1 m2 => f.apart j k w w' b e1 e2 (List.mem_cons_of_mem _ m1) (List.mem_cons_of_mem _ m2), f.len⟩⟩
      · by_cases q : b = a
        · rw [q]; exact h6
        · rw [upd_ne q] at z; exact absurd n z
      · by_cases q : j = i
        · subst q
          rw [hu] at e; cases e
          exact ⟨_, h2, by rw [h1]; exact .lst (SqL.of upd_same) (h7.mono s2 (List.prefix_refl _))⟩
        · obtain ⟨v, h8, h9⟩ := f.slot j w e fun z => (List.mem_cons.mp z).elim q n
          exact ⟨v, h8, h9.mono s2 (List.prefix_refl _)⟩
      · obtain ⟨us, b, ys, k1, k2, k3, k4, k5, k6, k7⟩ := f.own j w e (List.mem_cons_of_mem _ m)
        have nb : b ≠ a := fun z => by
          subst z
          have q := f.apart j i w u b e hu (List.mem_cons_of_mem _ m) List.mem_cons_self k2 h2
          exact mi (q ▸ m)
        exact ⟨us, b, ys, k1, k2, k3, by rw [upd_ne nb]; exact k4, k5, k6, k7.mono s2 (List.prefix_refl _)⟩
    · refine ⟨G, g, fun _ _ e => e, fun b n z => absurd n z, ⟨fun j u e n => ?_, fun j u e m => f.own j u e (List.mem_cons_of_mem _ m), fun j k u w a e1 e2 m1 m2 => f.apart j k u w a e1 e2 (List.mem_cons_of_mem _ m1) (List.mem_cons_of_mem _ m2), f.len⟩⟩
      by_cases q : j = i
      · subst q; exact absurd ⟨u, e⟩ ht
      · exact f.slot j u e fun z => (List.mem_cons.mp z).elim q n
theorem Fr.frzAll : ∀ {lin : List Nat} {G : Hp}, Fr K lin G R H τ σ N0 → Gd K G R H h → ∃ G', Gd K G' R H h ∧ Same G G' ∧ (∀ b, G b = none → G' b ≠ none → N0 b) ∧ Fr K [] G' R H τ σ N0
  | [], G, f, g => ⟨G, g, fun _ _ e => e, fun b n z => absurd n z, f⟩
  | i :: l, G, f, g => by
    obtain ⟨G1, g1, s1, n1, f1⟩ := f.frz1 g
    obtain ⟨G2, g2, s2, n2, f2⟩ := Fr.frzAll f1 g1
    refine ⟨G2, g2, same_trans s1 s2, fun b n z => ?_, f2⟩
    by_cases q : G1 b = none
    · exact n2 b q z
    · exact n1 b n q
end
inductive Pat where
  | nm (i : Nat)
  | tp (is : List Nat)
  | tq (i : Nat) (js : List Nat)
def setAll : List Nat → List T → Ev → Option Ev
  | [], [], τ => some τ
  | i :: is, t :: ts, τ => setAll is ts (τ.set i (some t))
  | _, _, _ => none
def bindP : Pat → T → Ev → Option Ev
  | .nm i, t, τ => some (τ.set i (some t))
  | .tp is, .tup ts, τ => setAll is ts τ
  | .tp is, .lst ts, τ => setAll is ts τ
  | .tp _, _, _ => none
  | .tq i js, .tup [a, .tup bs], τ => setAll js bs (τ.set i (some a))
  | .tq _ _, _, _ => none
def Pat.vars : Pat → List Nat
  | .nm i => [i]
  | .tp is => is
  | .tq i js => i :: js
def wipeT (τ : Ev) : List Nat → Ev
  | [] => τ
  | v :: vs => (wipeT τ vs).set v none
theorem wipeT_len (τ : Ev) : ∀ vs, (wipeT τ vs).length = τ.length
  | [] => rfl
  | v :: vs => by show ((wipeT τ vs).set v none).length = _; rw [List.length_set, wipeT_len τ vs]
theorem wipeT_some {τ : Ev} {i : Nat} {t : T} : ∀ {vs : List Nat}, (wipeT τ vs)[i]? = some (some t) → τ[i]? = some (some t) ∧ i ∉ vs
  | [], e => ⟨e, by simp⟩
  | v :: vs, e => by
    have e' : ((wipeT τ vs).set v none)[i]? = some (some t) := e
    rcases get_set e' with ⟨_, q, _⟩ | ⟨q, e2⟩
    · cases q
    · obtain ⟨h1, h2⟩ := wipeT_some e2
      exact ⟨h1, by simp only [List.mem_cons, not_or]; exact ⟨q, h2⟩⟩
theorem wipe_ne {σ : L2.St} {i : Nat} : ∀ {vs : List Nat}, i ∉ vs → (wipe σ vs)[i]? = σ[i]?
  | [], _ => rfl
  | v :: vs, n => by
    show ((wipe σ vs).set v none)[i]? = _
    rw [List.getElem?_set_ne (fun z => n (by rw [z]; exact List.mem_cons_self))]
    exact wipe_ne fun m => n (List.mem_cons_of_mem _ m)
theorem wipe_set {σ : L2.St} {i : Nat} {o : Option V} : ∀ {vs : List Nat}, i ∈ vs → wipe (σ.set i o) vs = wipe σ vs
  | v :: vs, m => by
    show (wipe (σ.set i o) vs).set v none = (wipe σ vs).set v none
    by_cases q : i ∈ vs
    · rw [wipe_set q]
    · have e : i = v := (List.mem_cons.mp m).elim id fun z => absurd z q
      subst e
      have step : ∀ {vs : List Nat} {σ : L2.St}, i ∉ vs → wipe (σ.set i o) vs = (wipe σ vs).set i o := by
        intro vs
        induction vs with
        | nil => intro σ _; rfl
        | cons w ws ih =>
          intro σ n
          show (wipe (σ.set i o) ws).set w none = ((wipe σ ws).set w none).set i o
          rw [ih fun m => n (List.mem_cons_of_mem _ m), List.set_comm _ _ (fun z => n (by rw [z]; exact List.mem_cons_self))]
      rw [step q, List.set_set]
section
variable {K : PySem.W.Frag} {lin : List Nat} {G : Hp} {R : List Addr} {H : Hp} {h : IH} {τ : Ev} {σ : L2.St} {N0 : Addr → Prop}
theorem Fr.wipe (f : Fr K lin G R H τ σ N0) (vs : List Nat) : Fr K lin G R H (wipeT τ vs) (L2.wipe σ vs) N0 where
  slot := fun i t e n => by
    obtain ⟨h1, h2⟩ := wipeT_some e
    obtain ⟨v, h3, h4⟩ := f.slot i t h1 n
    exact ⟨v, by rw [wipe_ne h2]; exact h3, h4⟩
  own := fun i t e m => by
    obtain ⟨h1, h2⟩ := wipeT_some e
    obtain ⟨ts, a, xs, h3, h4, h5⟩ := f.own i t h1 m
    exact ⟨ts, a, xs, h3, by rw [wipe_ne h2]; exact h4, h5⟩
  apart := fun i j t u a e1 e2 m1 m2 s1 s2 => by
    obtain ⟨h1, h2⟩ := wipeT_some e1
    obtain ⟨h3, h4⟩ := wipeT_some e2
    rw [wipe_ne h2] at s1
    rw [wipe_ne h4] at s2
    exact f.apart i j t u a h1 h3 m1 m2 s1 s2
  len := by rw [wipeT_len, wipe_length]; exact f.len
/-- a target's rule serves a pattern -/
def GOk (K : PySem.W.Frag) (lin : List Nat) (pt : Pat) (g : TG) : Prop := ∀ (t : T) (v : V) (τ τ' : Ev) (σ : L2.St) (G : Hp) (R : List Addr) (H : Hp) (h : IH) (N0 : Addr → Prop) (Q : L2.St → Hp → Prop), Gd K G R H h → Fr K lin G R H τ σ N0 → Rp K G R t v → bindP pt t τ = some τ' →
  (∀ σ', Fr K lin G R H τ' σ' N0 → (∀ vs, (∀ i ∈ pt.vars, i ∈ vs) → L2.wipe σ' vs = L2.wipe σ vs) → Q σ' H) → g v σ H Q
theorem gok_nm {i : Nat} (n : lin.contains i = false) : GOk K lin (.nm i) (gName i) := by
  intro t v τ τ' σ G R H h N0 Q g f r e k
  cases e
  have nl : i ∉ lin := fun m => by rw [List.contains_iff_mem.mpr m] at n; cases n
  exact k _ (f.put nl r) fun vs m => wipe_set (m i (by simp [Pat.vars]))
def GsOk (K : PySem.W.Frag) (lin : List Nat) (is : List Nat) (g : TGs) : Prop := ∀ (ts : List T) (vs : List V) (τ τ' : Ev) (σ : L2.St) (G : Hp) (R : List Addr) (H : Hp) (h : IH) (N0 : Addr → Prop) (Q : L2.St → Hp → Prop), Gd K G R H h → Fr K lin G R H τ σ N0 → RpL K G R ts vs → setAll is ts τ = some τ' →
  (∀ σ', Fr K lin G R H τ' σ' N0 → (∀ vs, (∀ i ∈ is, i ∈ vs) → L2.wipe σ' vs = L2.wipe σ vs) → Q σ' H) → g vs σ H Q
theorem gsok_nil : GsOk K lin [] gNil := by
  intro ts vs τ τ' σ G R H h N0 Q g f r e k
  cases r with
  | nil => cases e; exact ⟨rfl, k σ f fun _ _ => rfl⟩
  | cons _ _ => cases e
theorem gsok_cons {i : Nat} {is : List Nat} {gs : TGs} (n : lin.contains i = false) (hr : GsOk K lin is gs) : GsOk K lin (i :: is) (gCons (gName i) gs) := by
  intro ts vs τ τ' σ G R H h N0 Q g f r e k
  have nl : i ∉ lin := fun m => by rw [List.contains_iff_mem.mpr m] at n; cases n
  cases r with
  | nil => cases e
  | cons r1 r2 =>
    refine ⟨_, _, rfl, ?_⟩
    exact hr _ _ _ τ' _ G R H h N0 Q g (f.put nl r1) r2 e fun σ' f' w => k σ' f' fun vs m => (w vs fun j mj => m j (List.mem_cons_of_mem _ mj)).trans (wipe_set (m i List.mem_cons_self))
theorem setAll_len : ∀ {is : List Nat} {ts : List T} {τ τ' : Ev}, setAll is ts τ = some τ' → ts.length = is.length
  | [], [], _, _, _ => rfl
  | _ :: is, _ :: ts, τ, τ', e => by rw [List.length_cons, List.length_cons, setAll_len (is := is) (ts := ts) e]
  | [], _ :: _, _, _, e => by cases e
  | _ :: _, [], _, _, e => by cases e
/-- of a tuple or a list -/
def gTL (K : PySem.W.Frag) (n : Nat) (t : TGs) : TG := fun v σ H Q => gTup K n t v σ H Q ∨ gUnl K n t v σ H Q
theorem pg_tl {X : Cx} {es : List Expr} {kk : Nat} {t : TGs} {n : Nat} {pos : Pos} (hc : X.calm = true) (h : PGs X es t)
    (hn : (assignEach es X.env).length = n := by rfl) (hst : (assignEach es X.env).findIdx? (·.1) = none := by rfl) : PG X (.Tuple es kk pos) (gTL X.K n t) :=
  ⟨fun pins s σ H v u Q I r hw => hw.elim (fun q => (pg_tup hc h hn hst).run pins s σ H v u Q I r q) fun q => (pg_unl hc h hn hst).run pins s σ H v u Q I r q⟩
theorem gok_tp {is : List Nat} {gs : TGs} {n : Nat} (hn : is.length = n) (hr : GsOk K lin is gs) : GOk K lin (.tp is) (gTL K n gs) := by
  intro t v τ τ' σ G R H h N0 Q g f r e k
  cases t with
  | tup ts =>
    cases r with
    | tup q r => exact .inl ⟨_, _, rfl, g.sqT q, by rw [← r.len, ← hn]; exact setAll_len e, hr _ _ _ τ' _ G R H h N0 Q g f r e k⟩
  | lst ts =>
    cases r with
    | lst q r => exact .inr ⟨_, _, rfl, g.sqL q, by rw [← r.len, ← hn]; exact setAll_len e, hr _ _ _ τ' _ G R H h N0 Q g f r e k⟩
  | _ => cases e
end
def nx {α : Type} (r : Rs α) : Rs α :=
  match r with
  | .ok a h => .ok a h
  | _ => .no
theorem nx_ok {α : Type} {r : Rs α} {a : α} {h : IH} (e : nx r = .ok a h) : r = .ok a h := by
  cases r <;> cases e; rfl
def sTrue : SB := fun _ h => .ok true h
def lcGo (pt : Pat) (cond : SB) (elt : SE) (τw : Ev) : List T → IH → Rs (List T)
  | [], h => .ok [] h
  | t :: ts, h =>
    match bindP pt t τw with
    | none => .no
    | some τ1 => (nx (cond τ1 h)).bind fun b h1 => if b = true then (nx (elt τ1 h1)).bind fun y h2 => (lcGo pt cond elt τw ts h2).bind fun ys h3 => .ok (y :: ys) h3 else lcGo pt cond elt τw ts h1
def eLc (it : SI) (own : List Nat) (pt : Pat) (cond : SB) (elt : SE) : SE := fun τ h => (it τ h).bind fun ts h1 => (lcGo pt cond elt (wipeT τ own) ts h1).bind fun ys h2 => if ts.length ≤ sizeLine then .ok (.lst ys) h2 else .no
theorem bind_ok {α β : Type} {r : Rs α} {f : α → IH → Rs β} {b : β} {h : IH} (e : r.bind f = .ok b h) : ∃ a h1, r = .ok a h1 ∧ f a h1 = .ok b h := by
  cases r with
  | ok a h1 => exact ⟨a, h1, rfl, e⟩
  | exc x h1 => cases e
  | no => cases e
theorem lcGo_noexc {pt : Pat} {cond : SB} {elt : SE} {τ : Ev} : ∀ (ts : List T) (h : IH) (x : Ex) (h' : IH), lcGo pt cond elt τ ts h ≠ .exc x h'
  | [], h, x, h' => fun z => by cases z
  | t :: ts, h, x, h' => fun z => by
    unfold lcGo at z
    split at z
    · cases z
    · rename_i τ1 _
      cases c : nx (cond τ1 h) with
      | ok b h1 =>
        rw [c] at z
        have z' : (if b = true then (nx (elt τ1 h1)).bind fun y h2 => (lcGo pt cond elt τ ts h2).bind fun ys h3 => .ok (y :: ys) h3 else lcGo pt cond elt τ ts h1) = Rs.exc x h' := z
        split at z'
        · cases d : nx (elt τ1 h1) with
          | ok y h2 =>
            rw [d] at z'
            have z2 : ((lcGo pt cond elt τ ts h2).bind fun ys h3 => Rs.ok (y :: ys) h3) = Rs.exc x h' := z'
            cases q : lcGo pt cond elt τ ts h2 with
            | ok ys h3 => rw [q] at z2; cases z2
            | exc x2 h3 => exact lcGo_noexc ts h2 x2 h3 q
            | no => rw [q] at z2; cases z2
          | exc x2 h3 => cases q : elt τ1 h1 <;> rw [q] at d <;> cases d
          | no => rw [d] at z'; cases z'
        · exact lcGo_noexc ts h1 x h' z'
      | exc x2 h3 => cases q : cond τ1 h <;> rw [q] at c <;> cases c
      | no => rw [c] at z; cases z
abbrev W0 : WX := fun _ _ _ _ => False
theorem lc_go {K : PySem.W.Frag} {mg : Str → Option Value} {E : WX} {lin : List Nat} {it : SI} {own : List Nat} {pt : Pat} {cond : SB} {elt : SE} {g : TG} {tt : TT} (hg : GOk K lin pt g) (hv : ∀ i ∈ pt.vars, i ∈ own) (ht : ∀ σ H Q, lB K mg W0 lin cond σ H Q → tt σ H Q) (σ : L2.St) (H : Hp) (Q : VK) (hq : lE K mg E lin .own (eLc it own pt cond elt) σ H Q) :
    tLc (lI K mg E lin it) g tt (lE K mg W0 lin .fz elt) own σ H Q := by
  obtain ⟨G, R, τ, h, N0, gd, fr, o⟩ := hq
  refine ⟨G, R, τ, h, N0, gd, fr, ?_⟩
  unfold eLc at o
  cases e : it τ h with
  | no => rw [e] at o; exact o
  | exc x h1 => rw [e] at o; exact o
  | ok ts h1 =>
    rw [e] at o
    intro G1 R1 H1 g1 e1 J jk D nD
    have o1 : Out K mg (fun c d H' => E c d σ H') G R H ((lcGo pt cond elt (wipeT τ own) ts h1).bind fun ys h2 => if ts.length ≤ sizeLine then .ok (.lst ys) h2 else .no) (fun t G' R' H' => ∀ v, Res K .own H t v G' R' H' → Q v H') := o
    cases ec : lcGo pt cond elt (wipeT τ own) ts h1 with
    | no => rw [ec] at o1; exact o1.elim
    | exc x h2 => exact absurd ec (lcGo_noexc _ _ _ _)
    | ok ys hf =>
      rw [ec] at o1
      have o2 : Out K mg (fun c d H' => E c d σ H') G R H (if ts.length ≤ sizeLine then Rs.ok (T.lst ys) hf else .no) (fun t G' R' H' => ∀ v, Res K .own H t v G' R' H' → Q v H') := o1
      split at o2
      · rename_i hsz
        refine ⟨fun i m H2 => m = ts.length - i ∧ i ≤ ts.length ∧ ∃ G2 R2 h2 acc accV zs, Gd K G2 R2 H2 h2 ∧ Ext G1 R1 H1 G2 R2 H2 ∧ H2 D = some (.lst accV) ∧ G2 D = none ∧ D ∉ R2 ∧ RpL K G2 R2 acc accV ∧ acc.length ≤ i ∧ lcGo pt cond elt (wipeT τ own) (ts.drop i) h2 = .ok zs hf ∧ acc ++ zs = ys, ⟨ts.length, ?_⟩, ?_⟩
        · obtain ⟨g2, e2, n2, m2⟩ := g1.newO (o := .lst []) nD
          exact ⟨rfl, Nat.zero_le _, G1, R1, h1, [], [], ys, g2, e2, upd_same, n2, m2, .nil, Nat.le_refl _, ec, rfl⟩
        · rintro i m H2 ⟨rfl, hi, G2, R2, h2, acc, accV, zs, g2, e2, hD, nG, nR, ra, la, el, es⟩
          by_cases hlt : i < ts.length
          · refine .inr ⟨jk.go i G2 R2 H2 h2 g2 e2.same e2.pre hlt, fun H' => ∃ G3 R3 h3 acc accV zs, Gd K G3 R3 H' h3 ∧ Ext G1 R1 H1 G3 R3 H' ∧ H' D = some (.lst accV) ∧ G3 D = none ∧ D ∉ R3 ∧ RpL K G3 R3 acc accV ∧ acc.length ≤ i + 1 ∧ lcGo pt cond elt (wipeT τ own) (ts.drop (i + 1)) h3 = .ok zs hf ∧ acc ++ zs = ys, fun H' hN => ⟨ts.length - (i + 1), by omega, rfl, hlt, hN⟩, fun x H' y => ?_⟩
            have ed : ts.drop i = ts[i] :: ts.drop (i + 1) := List.drop_eq_getElem_cons hlt
            rw [ed] at el
            obtain ⟨G3, g3, e3, rx⟩ := jk.yld i ts[i] G2 R2 H2 h2 x H' g2 e2.same e2.pre (List.getElem?_eq_getElem hlt) y
            have hD3 : H' D = some (.lst accV) := e3.kept D _ hD nR
            have nG3 : G3 D = none := by
              cases q : G3 D with
              | none => rfl
              | some u => have z := e3.gnew D nG (by rw [q]; exact fun z => nomatch z); rw [hD] at z; cases z
            have e13 := e2.trans g1 g3 e3
            unfold lcGo at el
            split at el
            · cases el
            · rename_i τ1 eb
              refine hg ts[i] x (wipeT τ own) τ1 (L2.wipe σ own) G3 R2 H' h2 N0 _ g3 ((((fr.ext e1).ext e2).ext e3).wipe own) rx eb fun σ' f' hw => ⟨(hw own hv).trans ?_, ?_⟩
              · have ww : ∀ (l : List Nat) (s : L2.St), (∀ j ∈ l, j ∈ own) → L2.wipe (L2.wipe s l) own = L2.wipe s own := by
                  intro l
                  induction l with
                  | nil => intro s _; rfl
                  | cons j l ih =>
                    intro s hl
                    show L2.wipe ((L2.wipe s l).set j none) own = _
                    rw [wipe_set (hl j List.mem_cons_self)]
                    exact ih s fun k mk => hl k (List.mem_cons_of_mem _ mk)
                exact ww own σ fun _ m => m
              · obtain ⟨b, h4, ecd, e5⟩ := bind_ok el
                have ecd := nx_ok ecd
                refine ht σ' H' _ ⟨G3, R2, τ1, h2, N0, g3, f', ?_⟩
                rw [ecd]
                intro G4 R4 H4 g4 e4
                have hD4 : H4 D = some (.lst accV) := e4.kept D _ hD3 nR
                have nG4 : G4 D = none := by
                  cases q : G4 D with
                  | none => rfl
                  | some u => have z := e4.gnew D nG3 (by rw [q]; exact fun z => nomatch z); rw [hD3] at z; cases z
                have nR4 : D ∉ R4 := fun m => (e4.rnew D m).elim nR fun z => by rw [hD3] at z; cases z
                have e14 := e13.trans g1 g4 e4
                cases b with
                | true =>
                  refine L2.iteT ?_
                  rw [if_pos rfl] at e5
                  obtain ⟨yy, h5, ee, e6⟩ := bind_ok e5
                  have ee := nx_ok ee
                  obtain ⟨zs', h6, ez, e7⟩ := bind_ok e6
                  cases e7
                  refine ⟨G4, R4, τ1, h4, N0, g4, f'.ext e4, ?_⟩
                  rw [ee]
                  intro G5 R5 H5 g5 e5 v rv
                  have hD5 : H5 D = some (.lst accV) := e5.kept D _ hD4 nR4
                  have nG5 : G5 D = none := by
                    cases q : G5 D with
                    | none => rfl
                    | some u => have z := e5.gnew D nG4 (by rw [q]; exact fun z => nomatch z); rw [hD4] at z; cases z
                  have nR5 : D ∉ R5 := fun m => (e5.rnew D m).elim nR4 fun z => by rw [hD4] at z; cases z
                  have e15 := e14.trans g1 g5 e5
                  have ra5 := e5.rpl (e4.rpl (e3.rpl ra))
                  refine ⟨accV, hD5, by rw [← ra.len]; omega, G5, R5, h5, acc ++ [yy], accV ++ [v], zs', g5.wr nG5 nR5, e15.wr nD, upd_same, nG5, nR5, ra5.append (.cons rv .nil), by simp; omega, ez, by rw [List.append_assoc]; exact es⟩
                | false =>
                  refine L2.iteF ?_
                  rw [if_neg Bool.false_ne_true] at e5
                  exact ⟨G4, R4, h4, acc, accV, zs, g4, e14, hD4, nG4, nR4, e4.rpl (e3.rpl ra), by omega, e5, es⟩
          · have ei : i = ts.length := by omega
            subst ei
            refine .inl ⟨jk.stop _ G2 R2 H2 h2 g2 e2.same e2.pre (Nat.le_refl _), ?_⟩
            rw [List.drop_length] at el
            cases el
            rw [List.append_nil] at es
            subst es
            exact o2 G2 R2 H2 g2 (e1.trans gd g2 e2) _ ⟨acc, D, accV, rfl, rfl, hD, nR, nG, e1.free g1 nD, ra⟩
      · exact o2.elim
section
variable {X : Cx} {E : WX} {lin : List Nat} {elt tg iter : Expr} {ifs : List Expr} {scope : Scope} {own : List (Str × Nat)} {pos : Pos} {it : SI} {pt : Pat} {cond : SB} {ee : SE} {g : TG} {tt : TT}
theorem pb_lc (hc : X.calm = true) (hN : X.N.Nodup) (hi : PIB X E lin tg iter it) (ok : BlkOk X.N X.env.scope scope own) (hgo : GOk X.K lin pt g) (hv : ∀ i ∈ pt.vars, i ∈ own.map (·.2)) (htt : ∀ σ H Q, lB X.K X.mg W0 lin cond σ H Q → tt σ H Q)
    (hg : ∀ (s : Shared) (H : Hp) (C : Addr) (cl : List (Str × Addr)) (fp : List Addr), PG (X.blk s H scope (compEnvC scope cl C X.env) fp) tg g) (ht : ∀ (s : Shared) (H : Hp) (C : Addr) (cl : List (Str × Addr)) (fp : List Addr), PTs (X.blk s H scope (compEnvC scope cl C X.env) fp) ifs tt)
    (he : ∀ (s : Shared) (H : Hp) (C : Addr) (cl : List (Str × Addr)) (fp : List Addr), PEB (X.blk s H scope (compEnvC scope cl C X.env) fp) W0 lin .fz elt ee) (hs : ∀ x, foldedSetIterable iter X.env x = pure x := by intro _; rfl) :
    PEB X E lin .own (.ListComp elt [⟨tg, iter, ifs, 0⟩] scope pos) (eLc it (own.map (·.2)) pt cond ee) :=
  impE (pe_lc (te := lE X.K X.mg W0 lin .fz ee) hc hN hi ok hg ht (fun s H C cl fp => he s H C cl fp) hs) fun σ H Q q => lc_go hgo hv htt σ H Q q
theorem tt_yes {K : PySem.W.Frag} {mg : Str → Option Value} (σ : L2.St) (H : Hp) (Q : Bool → Hp → Prop) : lB K mg W0 lin sTrue σ H Q → tYes σ H Q := fun ⟨G, R, τ, h, N0, gd, fr, o⟩ => o G R H gd .refl
end
end GB
namespace GB
open PySem PySem.Spec PyProof.Rows L2
inductive Fl where
  | nx (τ : Ev) (h : IH)
  | rt (t : T) (h : IH)
  | exc (x : Ex) (τ : Ev) (h : IH)
  | no
abbrev SS := Ev → IH → Fl
/-- a def's activation: the ground, the boxes, the heap at its entry -/
structure Ent where
  G : Hp
  R : List Addr
  H : Hp
structure FrS (K : PySem.W.Frag) (en : Ent) (lin : List Nat) (G : Hp) (R : List Addr) (H : Hp) (h : IH) (τ : Ev) (σ : L2.St) : Prop where
  gd : Gd K G R H h
  ext : Ext en.G en.R en.H G R H
  fr : Fr K lin G R H τ σ (fun a => en.H a = none)
  gd0 : ∃ h0, Gd K en.G en.R en.H h0
def OutS (K : PySem.W.Frag) (mg : Str → Option Value) (E : WX) (en : Ent) (rk : Kd) (lin' : List Nat) (G : Hp) (R : List Addr) (r : Fl) (D : Ends) : Prop :=
  match r with
  | .nx τ' h' => ∀ G' R' H' σ', FrS K en lin' G' R' H' h' τ' σ' → Same G G' → R <+: R' → D.nx σ' H'
  | .rt t h' => ∀ G' R' H' v, Gd K G' R' H' h' → Ext en.G en.R en.H G' R' H' → Res K rk en.H t v G' R' H' → D.rt v H'
  | .exc x τ' h' => ∀ G' R' H' σ' c d, FrS K en [] G' R' H' h' τ' σ' → Same G G' → R <+: R' → XR K mg x c d G' R' H' → E c d σ' H'
  | .no => False
def lS (K : PySem.W.Frag) (mg : Str → Option Value) (E : WX) (en : Ent) (rk : Kd) (lin lin' : List Nat) (g : SS) : TS := fun D σ H =>
  ∃ G R τ h, FrS K en lin G R H h τ σ ∧ OutS K mg E en rk lin' G R (g τ h) D
def PSB (X : Cx) (E : WX) (en : Ent) (rk : Kd) (lin lin' : List Nat) (st : Stmt) (g : SS) : Prop := PS X st (lS X.K X.mg E en rk lin lin' g)
def PSsB (X : Cx) (E : WX) (en : Ent) (rk : Kd) (lin lin' : List Nat) (st : List Stmt) (g : SS) : Prop := PSs X st (lS X.K X.mg E en rk lin lin' g)
/-- an outcome of a part, then the rest -/
def Rs.fl {α : Type} (r : Rs α) (τ : Ev) (k : α → IH → Fl) : Fl :=
  match r with
  | .ok a h => k a h
  | .exc x h => .exc x τ h
  | .no => .no
section
variable {K : PySem.W.Frag} {mg : Str → Option Value} {E : WX} {en : Ent} {rk kd : Kd} {lin lin' : List Nat} {G G' : Hp} {R R' : List Addr} {H H' : Hp} {h h' : IH} {τ : Ev} {σ : L2.St} {D : Ends}
theorem OutS.on {r : Fl} (s : Same G G') (p : R <+: R') (o : OutS K mg E en rk lin' G R r D) : OutS K mg E en rk lin' G' R' r D := by
  cases r with
  | nx τ' h' => exact fun G2 R2 H2 σ2 f s2 p2 => o G2 R2 H2 σ2 f (same_trans s s2) (p.trans p2)
  | rt t h' => exact o
  | exc x τ' h' => exact fun G2 R2 H2 σ2 c d f s2 p2 q => o G2 R2 H2 σ2 c d f (same_trans s s2) (p.trans p2) q
  | no => exact o
theorem FrS.on (f : FrS K en lin G R H h τ σ) (g : Gd K G' R' H' h') (e : Ext G R H G' R' H') : FrS K en lin G' R' H' h' τ σ :=
  let ⟨_, g0⟩ := f.gd0; ⟨g, f.ext.trans g0 g e, f.fr.ext e, f.gd0⟩
theorem XR.grow {x : Ex} {c : Value} {d : Option Addr} (s : Same G G') (q : XR K mg x c d G R H) : XR K mg x c d G' R H := by
  obtain ⟨C, h1, h2, h3⟩ := q
  refine ⟨C, h1, h2, ?_⟩
  split at h3
  · exact h3
  · obtain ⟨dd, fs, h4, h5, h6, h7, h8⟩ := h3
    exact ⟨dd, fs, h4, h5, h6, h7, h8.mono s (List.prefix_refl _)⟩
theorem FrS.frz (f : FrS K en lin G R H h τ σ) : ∃ G', FrS K en [] G' R H h τ σ ∧ Same G G' := by
  obtain ⟨G', g', s', n', f'⟩ := f.fr.frzAll f.gd
  exact ⟨G', ⟨g', ⟨same_trans f.ext.same s', f.ext.pre, f.ext.kept, fun b n z => if q : G b = none then n' b q z else f.ext.gnew b n q, f.ext.rnew⟩, f', f.gd0⟩, s'⟩
theorem lE.thenS {f : SE} {k : T → IH → Fl} {Q : VK} (fs : FrS K en lin G R H h τ σ) (o : OutS K mg E en rk lin' G R ((f τ h).fl τ k) D)
    (hq : ∀ t v h1 G1 R1 H1, FrS K en lin G1 R1 H1 h1 τ σ → Ext G R H G1 R1 H1 → Res K kd H t v G1 R1 H1 → OutS K mg E en rk lin' G1 R1 (k t h1) D → Q v H1) : lE K mg E lin kd f σ H Q := by
  refine ⟨G, R, τ, h, _, fs.gd, fs.fr, ?_⟩
  cases e : f τ h with
  | ok t h1 =>
    rw [e] at o
    exact fun G1 R1 H1 g1 e1 v r => hq t v h1 G1 R1 H1 (fs.on g1 e1) e1 r (OutS.on e1.same e1.pre o)
  | exc x h1 =>
    rw [e] at o
    intro G1 R1 H1 c d g1 e1 q
    obtain ⟨G2, f2, s2⟩ := (fs.on g1 e1).frz
    exact o G2 R1 H1 σ c d f2 (same_trans e1.same s2) e1.pre (q.grow s2)
  | no => rw [e] at o; exact o
theorem lB.thenS {f : SB} {k : Bool → IH → Fl} {Q : Bool → Hp → Prop} (fs : FrS K en lin G R H h τ σ) (o : OutS K mg E en rk lin' G R ((f τ h).fl τ k) D)
    (hq : ∀ b h1 G1 R1 H1, FrS K en lin G1 R1 H1 h1 τ σ → Ext G R H G1 R1 H1 → OutS K mg E en rk lin' G1 R1 (k b h1) D → Q b H1) : lB K mg E lin f σ H Q := by
  refine ⟨G, R, τ, h, _, fs.gd, fs.fr, ?_⟩
  cases e : f τ h with
  | ok t h1 =>
    rw [e] at o
    exact fun G1 R1 H1 g1 e1 => hq t h1 G1 R1 H1 (fs.on g1 e1) e1 (OutS.on e1.same e1.pre o)
  | exc x h1 =>
    rw [e] at o
    intro G1 R1 H1 c d g1 e1 q
    obtain ⟨G2, f2, s2⟩ := (fs.on g1 e1).frz
    exact o G2 R1 H1 σ c d f2 (same_trans e1.same s2) e1.pre (q.grow s2)
  | no => rw [e] at o; exact o
theorem lA.thenS {f : SA} {k : List T → IH → Fl} {Q : List V → Hp → Prop} (fs : FrS K en lin G R H h τ σ) (o : OutS K mg E en rk lin' G R ((f τ h).fl τ k) D)
    (hq : ∀ ts vs h1 G1 R1 H1, FrS K en lin G1 R1 H1 h1 τ σ → Ext G R H G1 R1 H1 → RpL K G1 R1 ts vs → OutS K mg E en rk lin' G1 R1 (k ts h1) D → Q vs H1) : lA K mg E lin f σ H Q := by
  refine ⟨G, R, τ, h, _, fs.gd, fs.fr, ?_⟩
  cases e : f τ h with
  | ok t h1 =>
    rw [e] at o
    exact fun G1 R1 H1 g1 e1 v r => hq t v h1 G1 R1 H1 (fs.on g1 e1) e1 r (OutS.on e1.same e1.pre o)
  | exc x h1 =>
    rw [e] at o
    intro G1 R1 H1 c d g1 e1 q
    obtain ⟨G2, f2, s2⟩ := (fs.on g1 e1).frz
    exact o G2 R1 H1 σ c d f2 (same_trans e1.same s2) e1.pre (q.grow s2)
  | no => rw [e] at o; exact o
theorem lI.thenS {f : SI} {k : List T → IH → Fl} {Q : It → Hp → Prop} (fs : FrS K en lin G R H h τ σ) (o : OutS K mg E en rk lin' G R ((f τ h).fl τ k) D)
    (hq : ∀ ts J h1 G1 R1 H1, FrS K en lin G1 R1 H1 h1 τ σ → Ext G R H G1 R1 H1 → ItOk K G1 R1 J ts → OutS K mg E en rk lin' G1 R1 (k ts h1) D → Q J H1) : lI K mg E lin f σ H Q := by
  refine ⟨G, R, τ, h, _, fs.gd, fs.fr, ?_⟩
  cases e : f τ h with
  | ok t h1 =>
    rw [e] at o
    exact fun G1 R1 H1 g1 e1 J r => hq t J h1 G1 R1 H1 (fs.on g1 e1) e1 r (OutS.on e1.same e1.pre o)
  | exc x h1 =>
    rw [e] at o
    intro G1 R1 H1 c d g1 e1 q
    obtain ⟨G2, f2, s2⟩ := (fs.on g1 e1).frz
    exact o G2 R1 H1 σ c d f2 (same_trans e1.same s2) e1.pre (q.grow s2)
  | no => rw [e] at o; exact o
end
def sSkip : SS := fun τ h => .nx τ h
def sSeq (f g : SS) : SS := fun τ h =>
  match f τ h with
  | .nx τ' h' => g τ' h'
  | r => r
def sIf (c : SB) (f g : SS) : SS := fun τ h => (c τ h).fl τ fun b h1 => if b = true then f τ h1 else g τ h1
def sRet (f : SE) : SS := fun τ h => (f τ h).fl τ fun t h1 => .rt t h1
def sExpr (f : SE) : SS := fun τ h => (f τ h).fl τ fun _ h1 => .nx τ h1
section
variable {X : Cx} {E : WX} {en : Ent} {rk kd : Kd} {lin lin1 lin' : List Nat} {st : Stmt} {sts rest a' b' : List Stmt} {f g : SS} {e a b c : Expr} {fa fb : SE} {sc : SB} {pos : Pos}
theorem pssb_nil : PSsB X E en rk lin lin [] sSkip := impSs pss_nil fun D σ H ⟨G, R, τ, h, fs, o⟩ => o G R H σ fs (fun _ _ e => e) (List.prefix_refl _)
theorem pssb_cons (h1 : PSB X E en rk lin lin1 st f) (h2 : PSsB X E en rk lin1 lin' rest g) : PSsB X E en rk lin lin' (st :: rest) (sSeq f g) := impSs (pss_cons h1 h2) fun D σ H ⟨G, R, τ, h, fs, o⟩ => by
  refine ⟨G, R, τ, h, fs, ?_⟩
  unfold sSeq at o
  cases e : f τ h with
  | nx τ' h' =>
    rw [e] at o
    exact fun G' R' H' σ' fs' s' p' => ⟨G', R', τ', h', fs', OutS.on s' p' o⟩
  | rt t h' => rw [e] at o; exact o
  | exc x τ' h' => rw [e] at o; exact o
  | no => rw [e] at o; exact o
theorem pssb_one (h1 : PSB X E en rk lin lin' st f) : PSsB X E en rk lin lin' [st] f := pss_one h1
theorem psb_if (hc : PTB X E lin c sc) (ha : PSsB X E en rk lin lin' a' f) (hb : PSsB X E en rk lin lin' b' g) : PSB X E en rk lin lin' (.If c a' b' pos) (sIf sc f g) := impS (ps_if hc ha hb) fun D σ H ⟨G, R, τ, h, fs, o⟩ => by
  refine lB.thenS fs o fun x h1 G1 R1 H1 f1 e1 o1 => ?_
  cases x with
  | true => exact ⟨G1, R1, τ, h1, f1, o1⟩
  | false => exact ⟨G1, R1, τ, h1, f1, o1⟩
theorem psb_ret (ha : PEB X E lin kd a fa) (hk : ∀ K H t v G R H', Res K kd H t v G R H' → Res K rk H t v G R H') : PSB X E en rk lin lin' (.Return (some a) pos) (sRet fa) := impS (ps_ret ha) fun D σ H ⟨G, R, τ, h, fs, o⟩ => by
  refine lE.thenS fs o fun t v h1 G1 R1 H1 f1 e1 r1 o1 => ?_
  obtain ⟨h0, g0⟩ := fs.gd0
  exact o1 G1 R1 H1 v f1.gd f1.ext (Res.back fs.gd fs.ext (hk _ _ _ _ _ _ _ r1))
theorem rid {K : PySem.W.Frag} {kd : Kd} {H : Hp} {t : T} {v : V} {G : Hp} {R : List Addr} {H' : Hp} (h : Res K kd H t v G R H') : Res K kd H t v G R H' := h
end
def sSet (i : Nat) (f : SE) : SS := fun τ h => (f τ h).fl τ fun t h1 => .nx (τ.set i (some t)) h1
def sTp (pt : Pat) (f : SE) : SS := fun τ h => (f τ h).fl τ fun t h1 =>
  match bindP pt t τ with
  | some τ' => .nx τ' h1
  | none => .no
def sPar (is : List Nat) (f : SA) : SS := fun τ h => (f τ h).fl τ fun ts h1 =>
  match setAll is ts τ with
  | some τ' => .nx τ' h1
  | none => .no
section
variable {X : Cx} {E : WX} {en : Ent} {rk kd : Kd} {lin lin1 lin' : List Nat} {st : Stmt} {sts rest a' b' : List Stmt} {f g : SS} {e a b c : Expr} {fa fb : SE} {fs : SA} {sc : SB} {pos pos' : Pos} {i j l : Nat} {x y z : Str}
theorem set_go {te : TE} (hte : ∀ σ H Q, lE X.K X.mg E lin .fz fa σ H Q → te σ H Q) (hl : lin.contains i = false) (D : Ends) (σ : L2.St) (H : Hp) (q : lS X.K X.mg E en rk lin lin (sSet i fa) D σ H) : tAsg te (gName i) D σ H := by
  obtain ⟨G, R, τ, h, fs, o⟩ := q
  have nl : i ∉ lin := fun m => by rw [List.contains_iff_mem.mpr m] at hl; cases hl
  refine hte σ H _ (lE.thenS fs o fun t v h1 G1 R1 H1 f1 e1 r1 o1 => ?_)
  exact o1 G1 R1 H1 _ ⟨f1.gd, f1.ext, f1.fr.put nl r1, f1.gd0⟩ (fun _ _ e => e) (List.prefix_refl _)
theorem setO_go {te : TE} (hte : ∀ σ H Q, lE X.K X.mg E lin .own fa σ H Q → te σ H Q) (D : Ends) (σ : L2.St) (H : Hp) (q : lS X.K X.mg E en rk lin (i :: lin) (sSet i fa) D σ H) : tAsg te (gName i) D σ H := by
  obtain ⟨G, R, τ, h, fs, o⟩ := q
  refine hte σ H _ (lE.thenS (kd := .own) fs o fun t v h1 G1 R1 H1 f1 e1 r1 o1 => ?_)
  obtain ⟨ts, p, xs, rfl, rfl, h3, h4, h5, h6, h7⟩ := r1
  refine o1 G1 R1 H1 _ ⟨f1.gd, f1.ext, f1.fr.putO h3 h5 h4 (fs.ext.free fs.gd h6) h7 fun j u b e m s z => ?_, f1.gd0⟩ (fun _ _ e => e) (List.prefix_refl _)
  subst z
  obtain ⟨us, b', ys, k1, k2, k3, _⟩ := fs.fr.own j u e m
  rw [s] at k2; cases k2
  rw [h6] at k3; cases k3
theorem psb_set (hl : lin.contains i = false) (hN : X.N.Nodup) (hi : X.N[i]? = some x) (hx : Loc X.env.scope x) (ha : PEB X E lin .fz a fa) (hs : swapsWith a (some (.Name x pos')) pos.line X.env = pure false := by rfl) (hf : X.fn x = true ∨ X.env.scope.names.lookup x = some .local := by first | exact .inl rfl | exact .inr rfl | assumption) :
    PSB X E en rk lin lin (.Assign [.Name x pos'] a pos) (sSet i fa) := impS (ps_set hN hi hx ha hs hf) fun D σ H q => set_go (fun _ _ _ q => q) hl D σ H q
theorem psb_setO (hN : X.N.Nodup) (hi : X.N[i]? = some x) (hx : Loc X.env.scope x) (ha : PEB X E lin .own a fa) (hs : swapsWith a (some (.Name x pos')) pos.line X.env = pure false := by rfl) (hf : X.fn x = true ∨ X.env.scope.names.lookup x = some .local := by first | exact .inl rfl | exact .inr rfl | assumption) :
    PSB X E en rk lin (i :: lin) (.Assign [.Name x pos'] a pos) (sSet i fa) := impS (ps_set hN hi hx ha hs hf) fun D σ H q => setO_go (fun _ _ _ q => q) D σ H q
end
section
variable {X : Cx} {E : WX} {en : Ent} {rk kd : Kd} {lin : List Nat} {elt tg iter : Expr} {ifs : List Expr} {scope : Scope} {own : List (Str × Nat)} {pos spos py : Pos} {it : SI} {pt : Pat} {cond : SB} {ee : SE} {g : TG} {tt : TT} {i : Nat} {y : Str}
theorem psb_setLcO (hc : X.calm = true) (hN : X.N.Nodup) (hy : X.N[i]? = some y) (hyl : X.env.scope.names.lookup y = some .local) (hsw : swapsWith (.ListComp elt [⟨tg, iter, ifs, 0⟩] scope pos) (some (.Name y py)) spos.line X.env = pure true)
    (hi : PIB X E lin tg iter it) (ok : BlkOk X.N X.env.scope scope own) (hgo : GOk X.K lin pt g) (hv : ∀ i ∈ pt.vars, i ∈ own.map (·.2)) (htt : ∀ σ H Q, lB X.K X.mg W0 lin cond σ H Q → tt σ H Q)
    (hg : ∀ (s : Shared) (H : Hp) (C : Addr) (cl : List (Str × Addr)) (fp : List Addr), PG (X.blk s H scope (compEnvC scope cl C X.env) fp) tg g) (ht : ∀ (s : Shared) (H : Hp) (C : Addr) (cl : List (Str × Addr)) (fp : List Addr), PTs (X.blk s H scope (compEnvC scope cl C X.env) fp) ifs tt)
    (he : ∀ (s : Shared) (H : Hp) (C : Addr) (cl : List (Str × Addr)) (fp : List Addr), PEB (X.blk s H scope (compEnvC scope cl C X.env) fp) W0 lin .fz elt ee) (hs : ∀ x, foldedSetIterable iter X.env x = pure x := by intro _; rfl) :
    PSB X E en rk lin (i :: lin) (.Assign [.Name y py] (.ListComp elt [⟨tg, iter, ifs, 0⟩] scope pos) spos) (sSet i (eLc it (own.map (·.2)) pt cond ee)) :=
  impS (ps_setLc (te := lE X.K X.mg W0 lin .fz ee) hc hN hy hyl hsw hi ok hg ht (fun s H C cl fp => he s H C cl fp) hs) fun D σ H q => setO_go (fun σ H Q q => lc_go hgo hv htt σ H Q q) D σ H q
end
def forGo (pt : Pat) (body : SS) : List T → Ev → IH → Fl
  | [], τ, h => .nx τ h
  | t :: ts, τ, h =>
    match bindP pt t τ with
    | none => .no
    | some τ1 =>
      match body τ1 h with
      | .nx τ2 h2 => forGo pt body ts τ2 h2
      | r => r
def sFor (it : SI) (pt : Pat) (body : SS) : SS := fun τ h => (it τ h).fl τ fun ts h1 => forGo pt body ts τ h1
def whN (c : SB) (body : SS) : Nat → Ev → IH → Fl
  | 0, _, _ => .no
  | n + 1, τ, h => (c τ h).fl τ fun b h1 => if b = true then (match body τ h1 with
    | .nx τ2 h2 => whN c body n τ2 h2
    | r => r) else .nx τ h1
def Fl.isNo : Fl → Prop
  | .no => True
  | _ => False
open Classical in
noncomputable def sWh (c : SB) (body : SS) : SS := fun τ h => if q : ∃ n, ¬ (whN c body n τ h).isNo then whN c body q.choose τ h else .no
theorem whN_mono {c : SB} {body : SS} : ∀ {n : Nat} {τ : Ev} {h : IH}, ¬ (whN c body n τ h).isNo → whN c body (n + 1) τ h = whN c body n τ h
  | 0, τ, h, q => absurd trivial q
  | n + 1, τ, h, q => by
    unfold whN at q ⊢
    cases e : c τ h with
    | no => rfl
    | exc x h1 => rfl
    | ok b h1 =>
      rw [e] at q
      cases b with
      | false => rfl
      | true =>
        have q' : ¬ (match body τ h1 with | .nx τ2 h2 => whN c body n τ2 h2 | r => r).isNo := q
        show (match body τ h1 with | .nx τ2 h2 => whN c body (n + 1) τ2 h2 | r => r) = (match body τ h1 with | .nx τ2 h2 => whN c body n τ2 h2 | r => r)
        cases e2 : body τ h1 with
        | nx τ2 h2 => rw [e2] at q'; exact whN_mono q'
        | rt t h2 => rfl
        | exc x τ2 h2 => rfl
        | no => rfl
theorem whN_le {c : SB} {body : SS} {n m : Nat} {τ : Ev} {h : IH} (q : ¬ (whN c body n τ h).isNo) (l : n ≤ m) : whN c body m τ h = whN c body n τ h := by
  induction l with
  | refl => rfl
  | step _ ih => exact (whN_mono (by rw [ih]; exact q)).trans ih
theorem sWh_of {c : SB} {body : SS} {n : Nat} {τ : Ev} {h : IH} (q : ¬ (whN c body n τ h).isNo) : sWh c body τ h = whN c body n τ h := by
  have e : ∃ n, ¬ (whN c body n τ h).isNo := ⟨n, q⟩
  unfold sWh
  rw [dif_pos e]
  rcases Nat.le_total e.choose n with l | l
  · exact (whN_le e.choose_spec l).symm
  · exact whN_le q l
/-- the loop is over -/
theorem sWh_done {c : SB} {body : SS} {τ : Ev} {h h1 : IH} (e : c τ h = .ok false h1) : sWh c body τ h = .nx τ h1 := by
  have q : whN c body 1 τ h = .nx τ h1 := by unfold whN; rw [e]; rfl
  rw [sWh_of (n := 1) (by rw [q]; exact id), q]
/-- one turn -/
theorem sWh_turn {c : SB} {body : SS} {τ τ2 : Ev} {h h1 h2 : IH} (e : c τ h = .ok true h1) (e2 : body τ h1 = .nx τ2 h2) : sWh c body τ h = sWh c body τ2 h2 := by
  have step : ∀ n, whN c body (n + 1) τ h = whN c body n τ2 h2 := fun n => by
    rw [show whN c body (n + 1) τ h = (c τ h).fl τ fun b h1 => if b = true then (match body τ h1 with
    | .nx τ2 h2 => whN c body n τ2 h2
    | r => r) else .nx τ h1 from rfl]
    rw [e]
    show (if true = true then (match body τ h1 with | .nx τ2 h2 => whN c body n τ2 h2 | r => r) else Fl.nx τ h1) = whN c body n τ2 h2
    rw [if_pos rfl, e2]
  by_cases q : ∃ n, ¬ (whN c body n τ2 h2).isNo
  · obtain ⟨n, q⟩ := q
    rw [sWh_of q, sWh_of (n := n + 1) (by rw [step]; exact q), step]
  · have q2 : ¬ ∃ n, ¬ (whN c body n τ h).isNo := fun ⟨n, z⟩ => by
      cases n with
      | zero => exact z trivial
      | succ n => rw [step] at z; exact q ⟨n, z⟩
    unfold sWh
    rw [dif_neg q, dif_neg q2]
theorem sWh_ret {c : SB} {body : SS} {τ : Ev} {h h1 h2 : IH} {t : T} (e : c τ h = .ok true h1) (e2 : body τ h1 = .rt t h2) : sWh c body τ h = .rt t h2 := by
  have q : whN c body 1 τ h = .rt t h2 := by
    unfold whN
    rw [e]
    show (if true = true then (match body τ h1 with | .nx τ2 h2 => whN c body 0 τ2 h2 | r => r) else Fl.nx τ h1) = .rt t h2
    rw [if_pos rfl, e2]
  rw [sWh_of (n := 1) (by rw [q]; exact id), q]
section
variable {X : Cx} {E : WX} {en : Ent} {rk kd : Kd} {lin : List Nat} {body : List Stmt} {tg iter c : Expr} {pos : Pos} {it : SI} {pt : Pat} {sc : SB} {sb : SS} {g : TG}
theorem psb_for (hp : PassesOwn (model X.prog X.w) X.A X.env X.xe) (hc : X.calm = true) (hi : PIB X E lin tg iter it) (hgo : GOk X.K lin pt g) (hg : PG X tg g) (hb : PSsB X E en rk lin lin body sb) (hs : ∀ x, foldedSetIterable iter X.env x = pure x := by intro _; rfl) :
    PSB X E en rk lin lin (.For tg iter body [] pos) (sFor it pt sb) := impS (ps_for hp hc hi hg hb hs) fun D σ H ⟨G, R, τ, h, fs, o⟩ => by
  refine lI.thenS fs o fun ts J h1 G1 R1 H1 f1 e1 jk o1 => ?_
  refine ⟨fun i m σ H => m = ts.length - i ∧ i ≤ ts.length ∧ ∃ G2 R2 τ2 h2, FrS X.K en lin G2 R2 H h2 τ2 σ ∧ Same G1 G2 ∧ R1 <+: R2 ∧ OutS X.K X.mg E en rk lin G2 R2 (forGo pt sb (ts.drop i) τ2 h2) D, ⟨ts.length, rfl, Nat.zero_le _, G1, R1, τ, h1, f1, fun _ _ e => e, List.prefix_refl _, o1⟩, ?_⟩
  rintro i m σ2 H2 ⟨rfl, hi, G2, R2, τ2, h2, f2, s2, p2, o2⟩
  by_cases hlt : i < ts.length
  · refine .inr ⟨jk.go i G2 R2 H2 h2 f2.gd s2 p2 hlt, fun σ' H' => ∃ G3 R3 τ3 h3, FrS X.K en lin G3 R3 H' h3 τ3 σ' ∧ Same G1 G3 ∧ R1 <+: R3 ∧ OutS X.K X.mg E en rk lin G3 R3 (forGo pt sb (ts.drop (i + 1)) τ3 h3) D, fun σ' H' hN => ⟨ts.length - (i + 1), by omega, rfl, hlt, hN⟩, fun x H' y => ?_⟩
    rw [List.drop_eq_getElem_cons hlt] at o2
    obtain ⟨G3, g3, e3, rx⟩ := jk.yld i ts[i] G2 R2 H2 h2 x H' f2.gd s2 p2 (List.getElem?_eq_getElem hlt) y
    have f3 := f2.on g3 e3
    unfold forGo at o2
    cases eb : bindP pt ts[i] τ2 with
    | none => rw [eb] at o2; exact o2.elim
    | some τ3 =>
      rw [eb] at o2
      refine hgo ts[i] x τ2 τ3 σ2 G3 R2 H' h2 _ _ g3 f3.fr rx eb fun σ3 f4 _ => ?_
      refine ⟨G3, R2, τ3, h2, ⟨g3, f3.ext, f4, f3.gd0⟩, ?_⟩
      have o3 : OutS X.K X.mg E en rk lin G3 R2 (match sb τ3 h2 with | .nx τ2 h2 => forGo pt sb (ts.drop (i + 1)) τ2 h2 | r => r) D := OutS.on e3.same e3.pre o2
      cases es : sb τ3 h2 with
      | nx τ4 h4 =>
        rw [es] at o3
        exact fun G' R' H' σ' f' s' p' => ⟨G', R', τ4, h4, f', same_trans s2 (same_trans e3.same s'), p2.trans p', OutS.on s' p' o3⟩
      | rt t h4 => rw [es] at o3; exact o3
      | exc x τ4 h4 => rw [es] at o3; exact o3
      | no => rw [es] at o3; exact o3
  · have ei : i = ts.length := by omega
    subst ei
    rw [List.drop_length] at o2
    exact .inl ⟨jk.stop _ G2 R2 H2 h2 f2.gd s2 p2 (Nat.le_refl _), o2 G2 R2 H2 σ2 f2 (fun _ _ e => e) (List.prefix_refl _)⟩
theorem psb_while (hp : PassesOwn (model X.prog X.w) X.A X.env X.xe) (hc : PTB X E lin c sc) (hb : PSsB X E en rk lin lin body sb) : PSB X E en rk lin lin (.While c body [] pos) (sWh sc sb) := impS (ps_while hp hc hb) fun D σ H ⟨G, R, τ, h, fs, o⟩ => by
  by_cases q : ∃ n, ¬ (whN sc sb n τ h).isNo
  · obtain ⟨n, q⟩ := q
    rw [sWh_of q] at o
    refine ⟨fun m σ H => ∃ G2 R2 τ2 h2, FrS X.K en lin G2 R2 H h2 τ2 σ ∧ OutS X.K X.mg E en rk lin G2 R2 (whN sc sb m τ2 h2) D, ⟨n, G, R, τ, h, fs, o⟩, ?_⟩
    rintro m σ2 H2 ⟨G2, R2, τ2, h2, f2, o2⟩
    cases m with
    | zero => exact False.elim o2
    | succ m =>
      refine lB.thenS f2 o2 fun b h3 G3 R3 H3 f3 e3 o3 => ?_
      cases b with
      | false => exact L2.iteF (o3 G3 R3 H3 σ2 f3 (fun _ _ e => e) (List.prefix_refl _))
      | true =>
        refine L2.iteT ⟨fun σ' H' => ∃ G4 R4 τ4 h4, FrS X.K en lin G4 R4 H' h4 τ4 σ' ∧ OutS X.K X.mg E en rk lin G4 R4 (whN sc sb m τ4 h4) D, fun σ' H' hN => ⟨m, Nat.lt_succ_self _, hN⟩, ?_⟩
        refine ⟨G3, R3, τ2, h3, f3, ?_⟩
        have o4 : OutS X.K X.mg E en rk lin G3 R3 (match sb τ2 h3 with | .nx τ2 h2 => whN sc sb m τ2 h2 | r => r) D := o3
        cases es : sb τ2 h3 with
        | nx τ4 h4 =>
          rw [es] at o4
          exact fun G' R' H' σ' f' s' p' => ⟨G', R', τ4, h4, f', OutS.on s' p' o4⟩
        | rt t h4 => rw [es] at o4; exact o4
        | exc x τ4 h4 => rw [es] at o4; exact o4
        | no => rw [es] at o4; exact o4
  · unfold sWh at o
    rw [dif_neg q] at o
    exact o.elim
end
end GB
namespace GB
open PySem PySem.Spec PyProof.Rows L2
def sApp (i : Nat) (f : SE) : SS := fun τ h =>
  match τ[i]? with
  | some (some (.lst ts)) => (f τ h).fl τ fun t h1 => if ts.length < sizeLine then .nx (τ.set i (some (.lst (ts ++ [t])))) h1 else .no
  | _ => .no
def sPut (i : Nat) (fi fv : SE) : SS := fun τ h => (fv τ h).fl τ fun t h1 =>
  match τ[i]? with
  | some (some (.lst ts)) => (fi τ h1).fl τ fun k h2 =>
    match k with
    | .int k => match ixN ts.length k with
      | some j => .nx (τ.set i (some (.lst (ts.set j t)))) h2
      | none => .no
    | _ => .no
  | _ => .no
/-- no argument: clear, reverse -/
def sMut (i : Nat) (w : List T → List T) : SS := fun τ h =>
  match τ[i]? with
  | some (some (.lst ts)) => .nx (τ.set i (some (.lst (w ts)))) h
  | _ => .no
def sExt (i : Nat) (f : SE) : SS := fun τ h =>
  match τ[i]? with
  | some (some (.lst ts)) => (f τ h).fl τ fun t h1 =>
    match t with
    | .lst us => if ts.length + us.length ≤ sizeLine then .nx (τ.set i (some (.lst (ts ++ us)))) h1 else .no
    | _ => .no
  | _ => .no
def sPutB (fb fi fv : SE) : SS := fun τ h => (fv τ h).fl τ fun t h1 => (fb τ h1).fl τ fun x h2 => (fi τ h2).fl τ fun k h3 =>
  match x, k with
  | .box n, .int k => match h3[n]? with
    | some (.lst ts) => match ixN ts.length k with
      | some j => .nx τ (h3.set n (.lst (ts.set j t)))
      | none => .no
    | _ => .no
  | _, _ => .no
section
variable {K : PySem.W.Frag} {mg : Str → Option Value} {E : WX} {en : Ent} {rk kd : Kd} {lin lin' : List Nat} {G G' : Hp} {R R' : List Addr} {H H' : Hp} {h h' : IH} {τ : Ev} {σ : L2.St} {D : Ends} {i : Nat}
/-- a list of the def's own is written -/
theorem FrS.wr (f : FrS K en lin G R H h τ σ) (m : i ∈ lin) {a : Addr} {t : T} {us : List T} {ys : List V} (ht : τ[i]? = some (some t)) (hs : σ[i]? = some (some (.ref a))) (r : RpL K G R us ys) : FrS K en lin G R (upd H a (.lst ys)) h (τ.set i (some (.lst us))) σ := by
  obtain ⟨ts, b, xs, h1, h2, h3, h4, h5, h6, h7⟩ := f.fr.own i t ht m
  rw [hs] at h2; cases h2
  exact ⟨f.gd.wr h4 h5, f.ext.wr h6, f.fr.wr m ⟨t, ht⟩ hs h4 h5 h6 r, f.gd0⟩
/-- a box is written -/
theorem FrS.wrB (f : FrS K en lin G R H h τ σ) {n : Nat} {a : Addr} {us ts : List T} {ys : List V} (hn : R[n]? = some a) (hc : h[n]? = some (.lst ts)) (r : RpL K G R us ys) : FrS K en lin G R (upd H a (.lst ys)) (h.set n (.lst us)) τ σ := by
  have ma : a ∈ R := List.mem_of_getElem? hn
  have na : G a = none := f.gd.off a ma
  have hln : n < h.length := (List.getElem?_eq_some_iff.mp hc).1
  refine ⟨⟨fun b u e => ?_, f.gd.off, f.gd.nd, by rw [List.length_set]; exact f.gd.len, fun k b c e1 e2 => ?_⟩, ⟨f.ext.same, f.ext.pre, fun b u e nb => ?_, f.ext.gnew, f.ext.rnew⟩, ⟨f.fr.slot, fun j u e mj => ?_, f.fr.apart, f.fr.len⟩, f.gd0⟩
  · have q : b ≠ a := fun z => by subst z; rw [na] at e; cases e
    rw [upd_ne q]; exact f.gd.same _ _ e
  · rcases get_set e2 with ⟨rfl, rfl, _⟩ | ⟨q, e2⟩
    · rw [hn] at e1; cases e1
      exact ⟨ys, upd_same, r⟩
    · have nb : b ≠ a := fun z => by
        subst z
        have h1 := (List.getElem?_eq_some_iff.mp e1)
        have h2 := (List.getElem?_eq_some_iff.mp hn)
        exact q ((List.getElem_inj f.gd.nd).mp (h1.2.trans h2.2.symm))
      exact (f.gd.cell k b c e1 e2).mono (fun _ _ e => e) (List.prefix_refl _) fun o h1 => by rw [upd_ne nb]; exact h1
  · have q : b ≠ a := fun z => by
      subst z
      rcases f.ext.rnew b ma with m | z
      · exact nb m
      · rw [e] at z; cases z
    rw [upd_ne q]; exact f.ext.kept b u e nb
  · obtain ⟨ws, b, xs, h1, h2, h3, h4, h5, h6⟩ := f.fr.own j u e mj
    have q : b ≠ a := fun z => h5 (z ▸ ma)
    exact ⟨ws, b, xs, h1, h2, by rw [upd_ne q]; exact h3, h4, h5, h6⟩
end
section
variable {X : Cx} {E : WX} {en : Ent} {rk kd k1 : Kd} {lin lin1 lin' : List Nat} {o a b c : Expr} {fo fa fb : SE} {pos pos' apos cpos tpos : Pos} {i j l : Nat} {x y z : Str}
theorem psb_app (hl : lin.contains i = true) (ha : PEB X E lin .fz a fa) (hN : X.N[i]? = some x := by rfl) (hv : Vis X.env.scope x := by first | exact Or.inl rfl | exact Or.inr (Or.inl rfl) | exact Or.inr (Or.inr rfl)) (hd : (x == ("__debug__" : Str)) = false := by decide) (hcd : (x == ("__classdict__" : Str)) = false := by decide)
    (hbase : attributeBase (.Name x pos') "append" X.env (eval (.Name x pos') X.env) = eval (.Name x pos') X.env := by rfl)
    (hfew : ((backTo cpos (starEach [a] X.env)).all (fun x => !x.1) && (backToKw cpos (keywordEach [] X.env)).all (fun x => x.1.isSome) && decide ([a].length + ([] : List Keyword).length + (if ([] : List Keyword).isEmpty then 0 else 1) < 30)) = true := by rfl)
    (hline : (apos.endLine == cpos.line) = true := by rfl) (hs : starEach [a] X.env = (false, eval a X.env) :: starEach [] X.env := by rfl) (hplain : (backTo cpos (starEach [] X.env)).any (·.1) = false := by rfl)
    (hsw : swapsWith (.Call (.Attribute (.Name x pos') "append" apos) [a] [] cpos) none pos.line X.env = pure false := by rfl) :
    PSB X E en rk lin lin (.Expr (.Call (.Attribute (.Name x pos') "append" apos) [a] [] cpos) pos) (sApp i fa) :=
  impS (ps_expr (pe_bm PySem.F.plainAttrs_list PySem.F.slot_list_append PySem.F.type_list_append mt_append (pe_var hN hv hd hcd) (pa_cons ha pa_nil hs) hbase hfew hline hs hplain) hsw) fun D σ H ⟨G, R, τ, h, fs, o⟩ => by
    have m : i ∈ lin := List.contains_iff_mem.mp hl
    unfold sApp at o
    split at o
    · rename_i ts e
      obtain ⟨us, p, xs, q1, h2, h3, h4, h5, h6, h7⟩ := fs.fr.own i _ e m
      cases q1
      refine ⟨_, h2, .inl ⟨rfl, xs, SqL.of h3⟩, ?_⟩
      refine lE.thenS fs o fun t v h1 G1 R1 H1 f1 e1 r1 o1 => ?_
      split at o1
      · rename_i hz
        have k3 := e1.kept p _ h3 h5
        refine ⟨p, xs, v, rfl, rfl, k3, by rw [← h7.len]; exact hz, ?_⟩
        exact o1 G1 R1 _ σ (f1.wr m e h2 ((e1.rpl h7).append (.cons r1 .nil))) (fun _ _ e => e) (List.prefix_refl _)
      · exact o1.elim
    · exact o.elim
/-- a box as a list that may be written -/
theorem box_at {K : PySem.W.Frag} {G : Hp} {R : List Addr} {H : Hp} {h : IH} {n : Nat} {v : V} {ts : List T} (g : Gd K G R H h) (r : Rp K G R (.box n) v) (e : h[n]? = some (.lst ts)) : ∃ a xs, v = .ref a ∧ R[n]? = some a ∧ H a = some (.lst xs) ∧ RpL K G R ts xs := by
  cases r with
  | @box a _ q =>
    obtain ⟨xs, h1, h2⟩ := g.cell n a _ q e
    exact ⟨a, xs, rfl, q, h1, h2⟩
theorem psb_putB (hb : PEB X E lin .fz o fo) (hi : PEB X E lin .fz b fb) (ha : PEB X E lin .fz a fa)
    (has : ∀ v, assign (.Subscript o b tpos) X.env v = (do
      let ov ← holding [v] (eval o X.env)
      let iv ← holding [v, ov] (eval b X.env)
      standAt tpos
      holding [v, ov, iv] (setItem ov iv v)
      release [v, ov, iv] []) := by intro _; rfl) (hs : swapsWithSole [.Subscript o b tpos] a pos.line X.env = pure false := by rfl) (hw : swappedStores [.Subscript o b tpos] a X.env = pure none := by rfl)
    (h1 : (assignEach [.Subscript o b tpos] X.env).map (·.2) = [assign (.Subscript o b tpos) X.env] := by rfl) : PSB X E en rk lin lin (.Assign [.Subscript o b tpos] a pos) (sPutB fo fb fa) :=
  impS (ps_asg ha (pg_sub hb hi set_list has) hs hw h1) fun D σ H ⟨G, R, τ, h, fs, o⟩ => by
    refine lE.thenS (kd := .fz) fs o fun t v h1 G1 R1 H1 f1 e1 r1 o1 => ?_
    refine lE.thenS (kd := .fz) f1 o1 fun x w h2 G2 R2 H2 f2 e2 r2 o2 => ?_
    refine lE.thenS (kd := .fz) f2 o2 fun k z h3 G3 R3 H3 f3 e3 r3 o3 => ?_
    split at o3
    · rename_i n k
      split at o3
      · rename_i ts ec
        split at o3
        · rename_i j ej
          obtain ⟨p, xs, rfl, q, hp, rx⟩ := box_at f3.gd (e3.rp r2) ec
          cases r3
          refine ⟨p, xs, k, j, rfl, rfl, hp, by rw [← rx.len]; exact ej, ?_⟩
          exact o3 G3 R3 _ σ (f3.wrB q ec (rx.set j (e3.rp (e2.rp r1)))) (fun _ _ e => e) (List.prefix_refl _)
        · exact o3.elim
      · exact o3.elim
    · exact o3.elim
theorem psb_put (hl : lin.contains i = true) (hi : PEB X E lin .fz b fb) (ha : PEB X E lin .fz a fa) (hN : X.N[i]? = some x := by rfl) (hv : Vis X.env.scope x := by first | exact Or.inl rfl | exact Or.inr (Or.inl rfl) | exact Or.inr (Or.inr rfl)) (hd : (x == ("__debug__" : Str)) = false := by decide) (hcd : (x == ("__classdict__" : Str)) = false := by decide)
    (has : ∀ v, assign (.Subscript (.Name x pos') b tpos) X.env v = (do
      let ov ← holding [v] (eval (.Name x pos') X.env)
      let iv ← holding [v, ov] (eval b X.env)
      standAt tpos
      holding [v, ov, iv] (setItem ov iv v)
      release [v, ov, iv] []) := by intro _; rfl) (hs : swapsWithSole [.Subscript (.Name x pos') b tpos] a pos.line X.env = pure false := by rfl) (hw : swappedStores [.Subscript (.Name x pos') b tpos] a X.env = pure none := by rfl)
    (h1 : (assignEach [.Subscript (.Name x pos') b tpos] X.env).map (·.2) = [assign (.Subscript (.Name x pos') b tpos) X.env] := by rfl) : PSB X E en rk lin lin (.Assign [.Subscript (.Name x pos') b tpos] a pos) (sPut i fb fa) :=
  impS (ps_asg ha (pg_sub (pe_var hN hv hd hcd) hi set_list has) hs hw h1) fun D σ H ⟨G, R, τ, h, fs, o⟩ => by
    have m : i ∈ lin := List.contains_iff_mem.mp hl
    refine lE.thenS (kd := .fz) fs o fun t v h1 G1 R1 H1 f1 e1 r1 o1 => ?_
    split at o1
    · rename_i ts e
      obtain ⟨us, p, xs, q1, h2, h3, h4, h5, h6, h7⟩ := f1.fr.own i _ e m
      cases q1
      refine ⟨_, h2, ?_⟩
      refine lE.thenS (kd := .fz) f1 o1 fun k z h3' G3 R3 H3 f3 e3 r3 o3 => ?_
      split at o3
      · rename_i k
        split at o3
        · rename_i j ej
          cases r3
          refine ⟨p, xs, k, j, rfl, rfl, e3.kept p _ h3 h5, by rw [← h7.len]; exact ej, ?_⟩
          exact o3 G3 R3 _ σ (f3.wr m e h2 ((e3.rpl h7).set j (e3.rp r1))) (fun _ _ e => e) (List.prefix_refl _)
        · exact o3.elim
      · exact o3.elim
    · exact o1.elim
end
def runF (n nl : Nat) (body : SS) : SF := fun ts h =>
  if ts.length = n then
    match body (ts.map some ++ List.replicate (nl - n) none) h with
    | .rt t h' => .ok t h'
    | .nx _ h' => .ok .non h'
    | .exc x _ h' => .exc x h'
    | .no => .no
  else .no
/-- what holds in the body of a def -/
structure Hx (X : Cx) (k : Nat) (E : WX) : Prop where
  room : Room k X.A
  tk : L2N.Takes X E
  po : PassesOwn (model X.prog X.w) X.A X.env X.xe
abbrev bodyX (P : Program) (w : World) (K : PySem.W.Frag) (mg : Str → Option Value) (base : Heap) (N : List Str) (q : Str) (st : Stmt) (f : Addr) (cdv : Value) (A : Around) (outer : List Env) (s : Shared) (H : Hp) (E : XK) : Cx :=
  cxOf (L2N.CX P w) P w K mg base N q (defScope st) f cdv A outer s H E
/-- where a def of the text stands -/
structure Here (K : PySem.W.Frag) (mg : Str → Option Value) (x : Str) (st : Stmt) (ps : List Str) : Prop where
  ex : ∃ f fd, L2.Fun K x x st f fd ∧ mg x = some (.ref f) ∧ Binds K fd ps []
section
variable {P : Program} {w : World} {K : PySem.W.Frag} {mg : Str → Option Value} {base : Heap} {x : Str} {st : Stmt} {N ps : List Str} {k : Nat}
theorem fr_start {en : Ent} {h : IH} {ts : List T} {vs : List V} (g : Gd K en.G en.R en.H h) (r : RpL K en.G en.R ts vs) (n : Nat) : FrS K en [] en.G en.R en.H h (ts.map some ++ List.replicate n none) (vs.map some ++ List.replicate n none) := by
  refine ⟨g, .refl, ⟨fun i t e _ => ?_, fun i t e m => absurd m (by simp), fun i j t u a _ _ m => absurd m (by simp), by simp [r.len]⟩, ⟨h, g⟩⟩
  by_cases hi : i < ts.length
  · rw [List.getElem?_append_left (by simpa using hi), List.getElem?_map] at e
    cases q : ts[i]? with
    | none => rw [q] at e; cases e
    | some u =>
      rw [q] at e
      cases e
      obtain ⟨v, h1, h2⟩ := r.get q
      refine ⟨v, ?_, h2⟩
      rw [List.getElem?_append_left (by rw [List.length_map, ← r.len]; exact hi), List.getElem?_map, h1]
      rfl
  · rw [List.getElem?_append_right (by simpa using hi), List.getElem?_replicate] at e
    split at e <;> cases e
theorem okN {x qual : Str} {st : Stmt} {f : Addr} {fd : FuncData} {N ps : List Str} {k : Nat} {sp : Sp} (F : L2.Fun K x qual st f fd) (S : FnScope N ps (defScope st)) (len : ∀ vs H Q E, sp vs H Q E → vs.length = ps.length)
    (hbody : ∀ (cdv : Value) (A : Around) (outer : List Env) (s : Shared) (H : Hp) (vs : List V) (Q : VK) (E : XK), Room k (A.deeper (envOfC qual (defScope st) s.heap.objs.size f cdv)) → sp vs H Q E →
      ∃ t, PSs (cxOf (L2N.CX P w) P w K mg base N qual (defScope st) f cdv A outer s H E) (defBody st) t ∧ t { nx := fun _ H' => Q .non H', rt := Q } (L2.start N vs) H) : FnOk P w K mg base (L2N.CX P w) (k + 1) f fd ps sp := by
  obtain ⟨oc, od, kV, doc, pm, an, cdv, ct, osl, rfl, lk, hcd⟩ := F.ex
  exact fn_of lk hcd S len fun A outer s H vs Q E hr hsp => hbody cdv A outer s H vs Q E hr hsp
theorem fnB {m : Str} {body : SS} {lin' : List Nat} {f : Addr} {fd : FuncData} (F : L2.Fun K m x st f fd) (S : FnScope N ps (defScope st))
    (hb : ∀ (f : Addr) (cdv : Value) (A : Around) (outer : List Env) (s : Shared) (H : Hp) (E : XK) (en : Ent), Hx (bodyX P w K mg base N x st f cdv A outer s H E) k (fun c d _ H => E c d H) → PSsB (bodyX P w K mg base N x st f cdv A outer s H E) (fun c d _ H => E c d H) en .fz [] lin' (defBody st) body) :
    FnOk P w K mg base (L2N.CX P w) (k + 1) f fd ps (spB K mg .fz (runF ps.length N.length body)) := by
  refine okN F S (fun vs H Q E h => ?_) (fun cdv A outer s H vs Q E hr h => ?_)
  · obtain ⟨G, R, ts, h, g, r, o⟩ := h
    rw [← r.len]
    by_cases q : ts.length = ps.length
    · exact q
    · unfold runF at o; rw [if_neg q] at o; exact o.elim
  · obtain ⟨G, R, ts, h, g, r, o⟩ := h
    unfold runF at o
    split at o
    · rename_i q
      refine ⟨_, hb f cdv A outer s H E ⟨G, R, H⟩ ⟨hr, L2N.takes_of rfl rfl rfl rfl, passes_of rfl⟩, G, R, ts.map some ++ List.replicate (N.length - ps.length) none, h, ?_, ?_⟩
      · unfold L2.start
        have e : vs.length = ps.length := by rw [← r.len]; exact q
        rw [e]
        exact fr_start (en := ⟨G, R, H⟩) g r (N.length - ps.length)
      · cases eb : body (ts.map some ++ List.replicate (N.length - ps.length) none) h with
        | rt t h' => rw [eb] at o; exact fun G' R' H' v g' e' r' => o G' R' H' g' e' v r'
        | nx τ' h' => rw [eb] at o; exact fun G' R' H' σ' f' _ _ => o G' R' H' f'.gd f'.ext _ .non
        | exc x τ' h' => rw [eb] at o; exact fun G' R' H' σ' c d f' _ _ q => o G' R' H' c d f'.gd f'.ext q
        | no => rw [eb] at o; exact o
    · exact o.elim
theorem calB {body : SS} {lin' : List Nat} (W : Here K mg x st ps) (S : FnScope N ps (defScope st))
    (hb : ∀ (f : Addr) (cdv : Value) (A : Around) (outer : List Env) (s : Shared) (H : Hp) (E : XK) (en : Ent), Hx (bodyX P w K mg base N x st f cdv A outer s H E) k (fun c d _ H => E c d H) → PSsB (bodyX P w K mg base N x st f cdv A outer s H E) (fun c d _ H => E c d H) en .fz [] lin' (defBody st) body) :
    CalB P w K mg base (k + 1) x .fz (runF ps.length N.length body) :=
  let ⟨f, fd, F, hm, hbi⟩ := W.ex
  ⟨f, fd, ps, fnB F S hb, hm, F.kp, hbi⟩
end
end GB
namespace GB
open PySem PySem.Spec PyProof.Rows L2
def GlobT (K : PySem.W.Frag) (mg : Str → Option Value) (x : Str) (t : T) : Prop := ∃ u v, mg x = some u ∧ RelV v u ∧ ∀ G R, Rp K G R t v
section
variable {X : Cx} {E : WX} {en : Ent} {rk kd k1 : Kd} {lin lin1 lin' : List Nat} {a b c : Expr} {fa fb : SE} {pos : Pos} {x : Str} {t : T}
theorem pb_gt (hg : Gl X x) (h : GlobT X.K X.mg x t) (hd : (x == ("__debug__" : Str)) = false := by decide) : PEB X E lin .fz (.Name x pos) (eC t) := by
  obtain ⟨u, v, h1, h2, h3⟩ := h
  exact pb_glob hg h1 h2 h3 hd
end
section
variable {K : PySem.W.Frag} {mg : Str → Option Value} {h : Heap} {x : Str}
theorem globT_int {i : Int} {t : Tok} (X : K.In h) (G : h.Ns mainGlobals mg) (a : PySem.W.nsIn K mainGlobals x = some (some (.int i t))) : GlobT K mg x (.int i) := ⟨_, .int i, PySem.W.mg_of X G a, ⟨t, rfl⟩, fun _ _ => .int i⟩
theorem globT_str {i : Str} {t : Tok} (X : K.In h) (G : h.Ns mainGlobals mg) (a : PySem.W.nsIn K mainGlobals x = some (some (.str i t))) : GlobT K mg x (.str i) := ⟨_, .str i, PySem.W.mg_of X G a, ⟨t, rfl⟩, fun _ _ => .str i⟩
/-- values that need no heap -/
def flatVT : T → Value → Prop
  | .int i, u => ∃ t, u = .int i t
  | .str i, u => ∃ t, u = .str i t
  | .bl b, u => u = .bool b
  | .non, u => u = .none
  | _, _ => False
inductive FlatL : List T → List Value → Prop
  | nil : FlatL [] []
  | cons {t u ts us} : flatVT t u → FlatL ts us → FlatL (t :: ts) (u :: us)
theorem flatL_vals : ∀ {ts : List T} {us : List Value}, FlatL ts us → ∃ vs, Vals vs us ∧ ∀ G R, RpL K G R ts vs
  | _, _, .nil => ⟨[], .nil, fun _ _ => .nil⟩
  | _, _, .cons (t := t) f r => by
    obtain ⟨vs, h1, h2⟩ := flatL_vals r
    cases t with
    | int i => obtain ⟨k, rfl⟩ := f; exact ⟨.int i :: vs, .cons ⟨k, rfl⟩ h1, fun G R => .cons (.int i) (h2 G R)⟩
    | str i => obtain ⟨k, rfl⟩ := f; exact ⟨.str i :: vs, .cons ⟨k, rfl⟩ h1, fun G R => .cons (.str i) (h2 G R)⟩
    | bl b => cases f; exact ⟨.bl b :: vs, .cons rfl h1, fun G R => .cons (.bl b) (h2 G R)⟩
    | non => cases f; exact ⟨.non :: vs, .cons rfl h1, fun G R => .cons .non (h2 G R)⟩
    | _ => exact False.elim f
theorem globT_tupA {p : Addr} {dd : Option Addr} {its : Array Value} {n : Nat} {sl : Array (Option Value)} {ts : List T} (X : K.In h) (G : h.Ns mainGlobals mg) (a : PySem.W.nsIn K mainGlobals x = some (some (.ref p)))
    (l : K.lookup p = some ⟨.type "tuple", dd, .seq its n, sl⟩) (f : FlatL ts its.toList) (hz : its.size ≤ sizeLine) : GlobT K mg x (.tup ts) := by
  obtain ⟨vs, h1, h2⟩ := flatL_vals (K := K) f
  exact ⟨_, .ref p, PySem.W.mg_of X G a, rfl, fun G R => .tup (.inr ⟨_, its, n, l, rfl, rfl, hz, h1⟩) (h2 G R)⟩
end
section
variable {K : PySem.W.Frag} {lin lin1 lin' : List Nat} {G : Hp} {R : List Addr} {H : Hp} {h : IH} {τ : Ev} {σ : L2.St} {N0 : Addr → Prop}
theorem Fr.perm (f : Fr K lin G R H τ σ N0) (hm : ∀ j, j ∈ lin ↔ j ∈ lin1) : Fr K lin1 G R H τ σ N0 :=
  ⟨fun i t e n => f.slot i t e fun m => n ((hm i).mp m), fun i t e m => f.own i t e ((hm i).mpr m), fun i j t u a e1 e2 m1 m2 => f.apart i j t u a e1 e2 ((hm i).mpr m1) ((hm j).mpr m2), f.len⟩
theorem Fr.drop : ∀ {D : List Nat} {G : Hp}, Fr K (D ++ lin1) G R H τ σ N0 → Gd K G R H h → ∃ G', Gd K G' R H h ∧ Same G G' ∧ (∀ b, G b = none → G' b ≠ none → N0 b) ∧ Fr K lin1 G' R H τ σ N0
  | [], G, f, g => ⟨G, g, fun _ _ e => e, fun b n z => absurd n z, f⟩
  | i :: l, G, f, g => by
    obtain ⟨G1, g1, s1, n1, f1⟩ := Fr.frz1 f g
    obtain ⟨G2, g2, s2, n2, f2⟩ := Fr.drop f1 g1
    refine ⟨G2, g2, same_trans s1 s2, fun b n z => ?_, f2⟩
    by_cases q : G1 b = none
    · exact n2 b q z
    · exact n1 b n q
def subL (a b : List Nat) : Bool := a.all fun i => b.contains i
theorem subL_mem {a b : List Nat} (h : subL a b = true) : ∀ i ∈ a, i ∈ b := fun i m => List.contains_iff_mem.mp (List.all_eq_true.mp h i m)
end
section
variable {X : Cx} {E : WX} {en : Ent} {rk kd k1 : Kd} {lin lin1 lin' : List Nat} {st : Stmt} {sts : List Stmt} {f : SS} {a b c : Expr} {fa fb : SE} {fs : SA} {pos pos' : Pos} {i j l : Nat} {x y z : Str}
theorem lS_fz (hs : subL lin1 lin = true) {D : Ends} {σ : L2.St} {H : Hp} (q : lS X.K X.mg E en rk lin lin' f D σ H) : lS X.K X.mg E en rk lin1 lin' f D σ H := by
  obtain ⟨G, R, τ, h, fs, o⟩ := q
  have m := subL_mem hs
  have f2 : Fr X.K (lin.filter (fun j => !lin1.contains j) ++ lin1) G R H τ σ (fun a => en.H a = none) := fs.fr.perm fun j => by
    rw [List.mem_append, List.mem_filter]
    constructor
    · intro mj
      by_cases q : j ∈ lin1
      · exact .inr q
      · exact .inl ⟨mj, by simp [q]⟩
    · rintro (⟨mj, _⟩ | mj)
      · exact mj
      · exact m j mj
  obtain ⟨G', g', s', n', f'⟩ := Fr.drop f2 fs.gd
  exact ⟨G', R, τ, h, ⟨g', ⟨same_trans fs.ext.same s', fs.ext.pre, fs.ext.kept, fun b n z => if q : G b = none then n' b q z else fs.ext.gnew b n q, fs.ext.rnew⟩, f', fs.gd0⟩, OutS.on s' (List.prefix_refl _) o⟩
theorem pssb_fz (hs : subL lin1 lin = true) (ha : PSsB X E en rk lin1 lin' sts f) : PSsB X E en rk lin lin' sts f := impSs ha fun D σ H q => lS_fz hs q
/-- a list of the def's own, put where one stood -/
theorem setO_lin (hl : lin.contains i = true) {D : Ends} {σ : L2.St} {H : Hp} (q : lS X.K X.mg E en rk lin lin f D σ H) : lS X.K X.mg E en rk lin (i :: lin) f D σ H := by
  obtain ⟨G, R, τ, h, fs, o⟩ := q
  refine ⟨G, R, τ, h, fs, ?_⟩
  cases e : f τ h with
  | nx τ' h' =>
    rw [e] at o
    intro G' R' H' σ' f' s' p'
    exact o G' R' H' σ' ⟨f'.gd, f'.ext, f'.fr.perm fun j => ⟨fun m => (List.mem_cons.mp m).elim (fun z => z ▸ List.contains_iff_mem.mp hl) id, fun m => List.mem_cons_of_mem _ m⟩, f'.gd0⟩ s' p'
  | rt t h' => rw [e] at o; exact o
  | exc x τ' h' => rw [e] at o; exact o
  | no => rw [e] at o; exact o
theorem psb_setO2 (hl : lin.contains i = true) (hN : X.N.Nodup) (hi : X.N[i]? = some x) (hx : Loc X.env.scope x) (ha : PEB X E lin .own a fa) (hs : swapsWith a (some (.Name x pos')) pos.line X.env = pure false := by rfl) (hf : X.fn x = true ∨ X.env.scope.names.lookup x = some .local := by first | exact .inl rfl | exact .inr rfl | assumption) :
    PSB X E en rk lin lin (.Assign [.Name x pos'] a pos) (sSet i fa) := impS (psb_setO hN hi hx ha hs hf) fun D σ H q => setO_lin hl q
end
section
variable {K : PySem.W.Frag} {X : Cx}
theorem op_catL : OpR X (binaryOp .Add) (rCatL X.K) := by
  intro pins s σ H x y v u Q I rx ry h
  obtain ⟨l, b, xs, zs, rfl, rfl, hH, hB, hz, q⟩ := h
  cases rx
  cases ry
  obtain ⟨its, r, p1, z1⟩ := I.list hH
  obtain ⟨its2, r2, p2, z2⟩ := I.list hB
  have l1 := r.length
  have l2 := r2.length
  obtain ⟨⟨cls, dd, data, sl⟩, ho, hc, n, hd⟩ := id p1.isList
  obtain ⟨⟨cls2, dd2, data2, sl2⟩, ho2, hc2, n2, hd2⟩ := id p2.isList
  simp only at hc hd hc2 hd2
  subst hc hd hc2 hd2
  have e : its.toArray ++ its2.toArray = (its ++ its2).toArray := by simp
  refine concat_meets ⟨_, ho, rfl⟩ ⟨_, ho2, rfl⟩ noFill_list_add seq_list_add PySem.F.slot_list_add PySem.F.entry_list_add (PySem.F.args_list_add_2 _ _) (list_addW l b its.toArray its2.toArray n n2 dd dd2 sl sl2 (by simp only [List.size_toArray]; omega)) ⟨ho, ho2, ?_⟩
  rw [e]
  exact ⟨.ref _, _, I.lnew (t' := s.toks) (r.append r2) (by rw [List.length_append]; omega), rfl, q _ I.fresh⟩
theorem o2_catL : Op2 K (rCatL K) gCat .own := by
  intro G R H h x y vx vy z Q g lx ly e k
  unfold gCat at e
  split at e
  · rename_i a b e1 e2
    split at e
    · rename_i hl
      cases e
      obtain ⟨p, xs, rfl, qx, rx⟩ := lx.asL g e1
      obtain ⟨q, ys, rfl, qy, ry⟩ := ly.asL g e2
      refine ⟨p, q, xs, ys, rfl, rfl, qx, qy, by rw [← rx.len, ← ry.len]; exact hl, fun l nl => ?_⟩
      obtain ⟨g2, e3, n, m⟩ := g.newO (o := .lst (xs ++ ys)) nl
      exact k _ _ _ _ g2 e3 ⟨_, l, _, rfl, rfl, upd_same, m, n, nl, e3.rpl (rx.append ry)⟩
    · cases e
  · cases e
end
section
theorem cx_no {P : Program} {w : World} {l : List Env} {H : Hp} {s s' : Shared} {e : Value} (h : L2N.CX P w l H s (fun _ _ _ => False) e s') : False := by
  obtain ⟨_, _, _, _, _, _, _, _, _, _, _, _, z⟩ := h
  exact z
theorem ints_rp {K : PySem.W.Frag} {G : Hp} {R : List Addr} : ∀ ns : List Int, RpL K G R (ns.map T.int) (ns.map V.int)
  | [] => .nil
  | n :: ns => .cons (.int n) (ints_rp ns)
theorem law_in {K : PySem.W.Frag} {mg : Str → Option Value} {H : Hp} {a : Addr} {ns : List Int} {F : SF} (hS : SqL K H a (ns.map V.int)) (hF : ∃ h', F [.lst (ns.map T.int)] [] = .ok (.bl true) h') : spB K mg .fz F [.ref a] H (fun v _ => v = .bl true) fun _ _ _ => False := by
  obtain ⟨h', e⟩ := hF
  refine ⟨H, [], [.lst (ns.map T.int)], [], ⟨fun _ _ e => e, fun a m => absurd m (by simp), List.nodup_nil, rfl, fun n a c e1 e2 => absurd e1 (by simp)⟩, .cons (.lst hS (ints_rp ns)) .nil, ?_⟩
  rw [e]
  intro G' R' H' g' e' v r
  cases r
  rfl
def spA (K : PySem.W.Frag) (F : SF) : Sp := fun vs H Q E => ∀ mg, spB K mg .fz F vs H Q E
theorem law_inA {K : PySem.W.Frag} {H : Hp} {a : Addr} {ns : List Int} {F : SF} (hS : SqL K H a (ns.map V.int)) (hF : ∃ h', F [.lst (ns.map T.int)] [] = .ok (.bl true) h') : spA K F [.ref a] H (fun v _ => v = .bl true) fun _ _ _ => False := fun mg => law_in hS hF
theorem fnA {P : Program} {w : World} {K : PySem.W.Frag} {mg : Str → Option Value} {base : Heap} {CX : CXT} {k : Nat} {f : Addr} {fd : FuncData} {ps : List Str} {F : SF} (h : FnOk P w K mg base CX k f fd ps (spB K mg .fz F)) : FnOk P w K mg base CX k f fd ps (spA K F) := h.imp fun _ _ _ _ q => q mg
end
end GB
namespace GB
open PySem PySem.Spec PyProof.Rows L2
def revTop (n : Nat) : Option Int → Nat
  | none => n
  | some i => if i < 0 then (i + n + 1).toNat else min (i.toNat + 1) n
abbrev GR := T → Option Int → IH → Option T
def eRev (g : GR) (f : SE) (lo : SO) : SE := fun τ h => (f τ h).bind fun x h1 => (lo τ h1).bind fun l h2 => Rs.of (g x l h2) h2
def gRevL : GR := fun x l h => (asL h x).map fun ts => .lst (ts.take (revTop ts.length l)).reverse
def gRevT : GR
  | .tup ts, none, _ => some (.tup ts.reverse)
  | _, _, _ => none
section
variable {X : Cx} {E : WX} {lin : List Nat} {kd k1 k2 : Kd} {a b : Expr} {lo : Option Expr} {fa fb : SE} {fl : SO} {pos p1 p2 p3 apos : Pos} {k : Nat}
def strsL : List T → Option (List Str)
  | [] => some []
  | .str z :: ts => (strsL ts).map (z :: ·)
  | _ :: _ => none
theorem strs_rp {K : PySem.W.Frag} {G : Hp} {R : List Addr} : ∀ {ts : List T} {xs : List V} {ys : List Str}, RpL K G R ts xs → strsL ts = some ys → xs = ys.map V.str
  | _, _, _, .nil, e => by cases e; rfl
  | _, _, _, .cons (t := t) h k, e => by
    cases t with
    | str z =>
      obtain ⟨zs, e1, rfl⟩ := Option.map_eq_some_iff.mp (show (strsL _).map (z :: ·) = some _ from e)
      cases h
      rw [strs_rp k e1]; rfl
    | _ => cases e
def gJoin : G2 := fun x y h =>
  match x with
  | .str a => ((asSeq h y).bind strsL).bind fun ys => if (ys.map (·.length)).sum + ys.length * a.length ≤ 16777216 then some (.str (Txt.join a ys)) else none
  | _ => none
def eJoin (f g : SE) : SE := fun τ h => (f τ h).bind fun x h1 =>
  match x with
  | .str z => (g τ h1).bind fun y h2 => Rs.of (gJoin (.str z) y h2) h2
  | _ => .no
theorem pb_join (ha : PEB X E lin k1 a fa) (hb : PEB X E lin k2 b fb) (hs : starEach [b] X.env = [(false, eval b X.env)] := by rfl) (hbase : attributeBase a "join" X.env (eval a X.env) = eval a X.env := by rfl) (hline : (apos.endLine == pos.line) = true := by rfl) :
    PEB X E lin .fz (.Call (.Attribute a "join" apos) [b] [] pos) (eJoin fa fb) := impE (pe_join ha hb hs hbase hline) fun σ H Q ⟨G, R, τ, h, N0, gd, fr, o⟩ => by
  refine lE.then gd fr o fun x vx h1 G1 R1 H1 g1 e1 f1 r1 o1 => ?_
  cases x with
  | str z0 =>
    refine ⟨⟨z0, Live.str (Res.live r1)⟩, ?_⟩
    refine lE.then g1 f1 o1 fun y vy h2 G2 R2 H2 g2 e2 f2 r2 o2 => ?_
    cases q : gJoin (.str z0) y h2 with
    | none => rw [q] at o2; exact o2.elim
    | some z =>
      rw [q] at o2
      have q' : ((asSeq h2 y).bind strsL).bind (fun ys => if (ys.map (·.length)).sum + ys.length * z0.length ≤ 16777216 then some (T.str (Txt.join z0 ys)) else none) = some z := q
      obtain ⟨ys, q1, q2⟩ := Option.bind_eq_some_iff.mp q'
      obtain ⟨ts, q3, q4⟩ := Option.bind_eq_some_iff.mp q1
      split at q2
      · rename_i hz
        cases q2
        obtain ⟨p, xs, e3, h4, h5⟩ := (Res.live r2).asSeq g2 q3
        subst e3
        refine ⟨_, p, ys, Live.str (Res.live r1), rfl, ?_, hz, o2 G2 R2 H2 g2 .refl _ (.str _)⟩
        rw [← strs_rp h5 q4]
        exact h4
      · cases q2
  | _ => exact o1.elim
end
def gShr : G2 := gI (fun _ j => decide (0 ≤ j)) fun i j => .int (i / 2 ^ j.toNat)
def gAnd : G2 := gI okAll fun i j => .int (Builtin.bitAnd i j)
end GB
namespace GB
open PySem PySem.Spec PyProof.Rows L2
open Sem (wp)
open AutoSeq1 (wpAny_loadPart')
def gEnT : T → IH → Option (List T)
  | .tup ts, _ => some (enumL ts)
  | _, _ => none
end GB
namespace GB
open PySem PySem.Spec PyProof.Rows L2
inductive LiveL (K : PySem.W.Frag) (G : Hp) (R : List Addr) (H : Hp) : List T → List V → Prop
  | nil : LiveL K G R H [] []
  | cons {t v ts vs} : Live K G R H t v → LiveL K G R H ts vs → LiveL K G R H (t :: ts) (v :: vs)
theorem LiveL.ext {K : PySem.W.Frag} {G G' : Hp} {R R' : List Addr} {H H' : Hp} (e : Ext G R H G' R' H') : ∀ {ts : List T} {vs : List V}, LiveL K G R H ts vs → LiveL K G' R' H' ts vs
  | _, _, .nil => .nil
  | _, _, .cons a b => .cons (Live.ext e a) (LiveL.ext e b)
def scal : T → Bool
  | .non => true
  | .bl _ => true
  | .int _ => true
  | .str _ => true
  | _ => false
def flatH (h : IH) : Bool := h.all fun c => match c with
  | .lst ts => ts.all scal
  | .obj _ ts => ts.all scal
  | .dct _ ts => ts.all scal
  | .tbl _ => false
def eCallB (F : SF) (f : SA) : SE := fun τ h => (f τ h).bind fun ts h1 => match F ts h1 with
  | .ok t h2 => if (scal t && flatH h2) = true then .ok t h2 else .no
  | _ => .no
end GB
namespace GB
open PySem PySem.Spec PyProof.Rows L2
def OkD {α : Type} (r : Rs α) (P : α → IH → Prop) : Prop :=
  match r with
  | .ok a h => P a h
  | _ => False
def OkSD (r : Fl) (N : Ev → IH → Prop) (Q : T → IH → Prop) : Prop :=
  match r with
  | .nx τ h => N τ h
  | .rt t h => Q t h
  | _ => False
section
variable {α β : Type} {r : Rs α} {P P' : α → IH → Prop} {a : α} {h : IH} {τ : Ev} {k : α → IH → Rs β} {Q : β → IH → Prop} {N N' : Ev → IH → Prop} {M M' : T → IH → Prop}
theorem OkD.imp (o : OkD r P) (i : ∀ a h, P a h → P' a h) : OkD r P' := by
  cases r with
  | ok a h => exact i a h o
  | _ => exact o.elim
theorem OkSD.imp {r : Fl} (o : OkSD r N M) (i : ∀ a h, N a h → N' a h) (j : ∀ a h, M a h → M' a h) : OkSD r N' M' := by
  cases r with
  | nx τ h => exact i τ h o
  | rt τ h => exact j τ h o
  | _ => exact o.elim
theorem OkD.ex (o : OkD r P) : ∃ a h, r = .ok a h ∧ P a h := by
  cases r with
  | ok a h => exact ⟨a, h, rfl, o⟩
  | _ => exact o.elim
theorem OkD.eq (o : OkD r fun b h' => b = a ∧ h' = h) : r = .ok a h := by
  obtain ⟨b, h', e, rfl, rfl⟩ := o.ex
  exact e
theorem OkD.of_eq (e : r = .ok a h) (p : P a h) : OkD r P := by rw [e]; exact p
theorem d_w_ok : OkD (.ok a h) P = P a h := rfl
theorem d_w_bind : OkD (r.bind k) Q = OkD r fun a h => OkD (k a h) Q := by cases r <;> rfl
theorem d_w_of {o : Option α} : OkD (Rs.of o h) P = ∃ a, o = some a ∧ P a h := by
  cases o with
  | none => exact propext ⟨fun z => z.elim, fun ⟨_, z, _⟩ => nomatch z⟩
  | some a => exact propext ⟨fun z => ⟨a, rfl, z⟩, fun ⟨_, z, p⟩ => by cases z; exact p⟩
theorem d_w_fl {k : α → IH → Fl} : OkSD (r.fl τ k) N M = OkD r fun a h => OkSD (k a h) N M := by cases r <;> rfl
theorem d_w_ite {c : Prop} [Decidable c] {x y : Rs α} : OkD (if c then x else y) P = if c then OkD x P else OkD y P := by split <;> rfl
theorem d_w_iteN {c : Prop} [Decidable c] {x : Rs α} : OkD (if c then x else .no) P = (c ∧ OkD x P) := by
  by_cases q : c
  · rw [if_pos q]; exact propext ⟨fun z => ⟨q, z⟩, fun z => z.2⟩
  · rw [if_neg q]; exact propext ⟨fun z => z.elim, fun z => q z.1⟩
theorem d_v_iteN {c : Prop} [Decidable c] {x : Fl} : OkSD (if c then x else .no) N M = (c ∧ OkSD x N M) := by
  by_cases q : c
  · rw [if_pos q]; exact propext ⟨fun z => ⟨q, z⟩, fun z => z.2⟩
  · rw [if_neg q]; exact propext ⟨fun z => z.elim, fun z => q z.1⟩
theorem ex_ite {c : Prop} [Decidable c] {x : α} {p : α → Prop} : (∃ z, (if c then some x else none) = some z ∧ p z) = (c ∧ p x) := by
  by_cases q : c
  · rw [if_pos q]; exact propext ⟨fun ⟨z, e, k⟩ => by cases e; exact ⟨q, k⟩, fun z => ⟨x, rfl, z.2⟩⟩
  · rw [if_neg q]; exact propext ⟨fun ⟨z, e, k⟩ => (by cases e), fun z => (q z.1).elim⟩
theorem ex_some {x : α} {p : α → Prop} : (∃ z, some x = some z ∧ p z) = p x := propext ⟨fun ⟨z, e, k⟩ => by cases e; exact k, fun z => ⟨x, rfl, z⟩⟩
theorem ex_map {o : Option α} {f : α → β} {p : β → Prop} : (∃ z, o.map f = some z ∧ p z) = ∃ z, o = some z ∧ p (f z) := by
  cases o with
  | none => exact propext ⟨fun ⟨_, z, _⟩ => (nomatch z), fun ⟨_, z, _⟩ => (nomatch z)⟩
  | some x => exact propext ⟨fun ⟨_, z, p⟩ => by cases z; exact ⟨x, rfl, p⟩, fun ⟨_, z, p⟩ => by cases z; exact ⟨_, rfl, p⟩⟩
theorem ex_bind {o : Option α} {f : α → Option β} {p : β → Prop} : (∃ z, o.bind f = some z ∧ p z) = ∃ y, o = some y ∧ ∃ z, f y = some z ∧ p z := by
  cases o with
  | none => exact propext ⟨fun ⟨_, z, _⟩ => (nomatch z), fun ⟨_, z, _⟩ => (nomatch z)⟩
  | some x => exact propext ⟨fun ⟨_, z, p⟩ => ⟨x, rfl, _, z, p⟩, fun ⟨_, z, _, y, p⟩ => by cases z; exact ⟨_, y, p⟩⟩
variable {P1 : T → IH → Prop} {PL : List T → IH → Prop} {PB : Bool → IH → Prop} {t : T} {i : Nat} {f g c : SE} {fs : SA} {sa sb : SB} {s1 s2 : SS} {o1 o2 : SO} {pt : Pat} {it : SI}
theorem d_w_C : OkD (eC t τ h) P1 = P1 t h := rfl
theorem d_w_V : OkD (eV i τ h) P1 = ∃ t, τ[i]? = some (some t) ∧ P1 t h := by
  unfold eV
  split
  · rename_i t e; rw [e]; exact propext ⟨fun z => ⟨t, rfl, z⟩, fun ⟨_, z, p⟩ => by cases z; exact p⟩
  · rename_i e; exact propext ⟨fun z => z.elim, fun ⟨t, z, p⟩ => (e t z).elim⟩
theorem d_w_Bin {o : G2} : OkD (eBin o f g τ h) P1 = OkD (f τ h) fun x h1 => OkD (g τ h1) fun y h2 => ∃ z, o x y h2 = some z ∧ P1 z h2 := by
  unfold eBin; simp only [d_w_bind, d_w_of]
theorem d_w_Un {o : G1} : OkD (eUn o f τ h) P1 = OkD (f τ h) fun x h1 => ∃ z, o x h1 = some z ∧ P1 z h1 := by
  unfold eUn; simp only [d_w_bind, d_w_of]
theorem d_w_Nil : OkD (aNil τ h) PL = PL [] h := rfl
theorem d_w_Cons : OkD (aCons f fs τ h) PL = OkD (f τ h) fun t h1 => OkD (fs τ h1) fun ts h2 => PL (t :: ts) h2 := by
  unfold aCons; simp only [d_w_bind, d_w_ok]
theorem d_w_Tup : OkD (eTup fs τ h) P1 = OkD (fs τ h) fun ts h1 => ts.length ≤ sizeLine ∧ P1 (.tup ts) h1 := by
  unfold eTup; simp only [d_w_bind, d_w_iteN, d_w_ok]
theorem d_w_Lst : OkD (eLst fs τ h) P1 = OkD (fs τ h) fun ts h1 => ts.length ≤ sizeLine ∧ P1 (.lst ts) h1 := by
  unfold eLst; simp only [d_w_bind, d_w_iteN, d_w_ok]
theorem d_w_Box : OkD (eBox fs τ h) P1 = OkD (fs τ h) fun ts h1 => ts.length ≤ sizeLine ∧ P1 (.box h1.length) (h1 ++ [.lst ts]) := by
  unfold eBox; simp only [d_w_bind, d_w_iteN, d_w_ok]
theorem d_w_Of : OkD (sOf f τ h) PB = OkD (f τ h) fun x h1 => ∃ b, x = .bl b ∧ PB b h1 := by
  unfold sOf
  rw [d_w_bind]
  congr 1; funext x h1
  cases x with
  | bl b => exact propext ⟨fun z => ⟨b, rfl, z⟩, fun ⟨_, z, p⟩ => by cases z; exact p⟩
  | _ => exact propext ⟨fun z => z.elim, fun ⟨_, z, p⟩ => nomatch z⟩
theorem d_w_And : OkD (sAnd sa sb τ h) PB = OkD (sa τ h) fun b h1 => if b = true then OkD (sb τ h1) PB else PB false h1 := by
  unfold sAnd; simp only [d_w_bind, d_w_ite, d_w_ok]
theorem d_w_Or : OkD (sOr sa sb τ h) PB = OkD (sa τ h) fun b h1 => if b = true then PB true h1 else OkD (sb τ h1) PB := by
  unfold sOr; simp only [d_w_bind, d_w_ite, d_w_ok]
theorem d_w_Not : OkD (sNot sa τ h) PB = OkD (sa τ h) fun b h1 => PB (!b) h1 := by
  unfold sNot; simp only [d_w_bind, d_w_ok]
theorem d_w_True : OkD (sTrue τ h) PB = PB true h := rfl
theorem d_w_eAnd : OkD (eAnd f g τ h) P1 = OkD (f τ h) fun x h1 => ∃ b, x = .bl b ∧ if b = true then OkD (g τ h1) P1 else P1 (.bl false) h1 := by
  unfold eAnd; simp only [d_w_bind, d_w_ite, d_w_ok, d_w_Of]
theorem d_w_eOr : OkD (eOr f g τ h) P1 = OkD (f τ h) fun x h1 => ∃ b, x = .bl b ∧ if b = true then P1 (.bl true) h1 else OkD (g τ h1) P1 := by
  unfold eOr; simp only [d_w_bind, d_w_ite, d_w_ok, d_w_Of]
theorem d_w_eNot : OkD (eNot f τ h) P1 = OkD (f τ h) fun x h1 => ∃ b, x = .bl b ∧ P1 (.bl (!b)) h1 := by
  unfold eNot; simp only [d_w_bind, d_w_ok, d_w_Of]
theorem d_w_If : OkD (eIf sa f g τ h) P1 = OkD (sa τ h) fun b h1 => if b = true then OkD (f τ h1) P1 else OkD (g τ h1) P1 := by
  unfold eIf; simp only [d_w_bind, d_w_ite]
theorem d_w_Chain {o1 o2 : G2} : OkD (eChain o1 o2 f g c τ h) P1 = OkD (f τ h) fun x h1 => OkD (g τ h1) fun y h2 => ∃ z, o1 x y h2 = some z ∧ ∃ b, z = .bl b ∧ if b = true then OkD (c τ h2) fun w h4 => ∃ z, o2 y w h4 = some z ∧ P1 z h4 else P1 (.bl false) h2 := by
  unfold eChain
  simp only [d_w_bind, d_w_of]
  congr 1; funext x h1; congr 1; funext y h2; congr 1; funext z
  refine congrArg (And _) ?_
  cases z with
  | bl b => cases b with
    | true => simp only [d_w_bind, d_w_of]; exact propext ⟨fun z => ⟨true, rfl, by rw [if_pos rfl]; exact z⟩, fun ⟨_, z, p⟩ => by cases z; rw [if_pos rfl] at p; exact p⟩
    | false => exact propext ⟨fun z => ⟨false, rfl, z⟩, fun ⟨_, z, p⟩ => by cases z; exact p⟩
  | _ => exact propext ⟨fun z => z.elim, fun ⟨_, z, p⟩ => nomatch z⟩
theorem d_w_oN {PO : Option Int → IH → Prop} : OkD (oNone τ h) PO = PO none h := rfl
theorem d_w_oS {PO : Option Int → IH → Prop} : OkD (oSome f τ h) PO = OkD (f τ h) fun x h1 => ∃ i, x = .int i ∧ PO (some i) h1 := by
  unfold oSome
  rw [d_w_bind]
  congr 1; funext x h1
  cases x with
  | int b => exact propext ⟨fun z => ⟨b, rfl, z⟩, fun ⟨_, z, p⟩ => by cases z; exact p⟩
  | _ => exact propext ⟨fun z => z.elim, fun ⟨_, z, p⟩ => nomatch z⟩
theorem d_w_Sl {o : G3} : OkD (eSl o f o1 o2 τ h) P1 = OkD (f τ h) fun x h1 => OkD (o1 τ h1) fun l h2 => OkD (o2 τ h2) fun u h3 => ∃ z, o x l u h3 = some z ∧ P1 z h3 := by
  unfold eSl; simp only [d_w_bind, d_w_of]
theorem d_w_Call {F : SF} : OkD (eCall F fs τ h) P1 = OkD (fs τ h) fun ts h1 => OkD (F ts h1) P1 := by
  unfold eCall; rw [d_w_bind]
theorem d_w_runF {n nl : Nat} {ts : List T} : OkD (runF n nl s1 ts h) P1 = (ts.length = n ∧ OkSD (s1 (ts.map some ++ List.replicate (nl - n) none) h) (fun _ h' => P1 .non h') P1) := by
  unfold runF
  rw [d_w_iteN]
  refine congrArg (And _) ?_
  cases s1 (ts.map some ++ List.replicate (nl - n) none) h <;> rfl
theorem d_v_nx : OkSD (.nx τ h) N M = N τ h := rfl
theorem d_v_rt : OkSD (.rt t h) N M = M t h := rfl
theorem d_v_Skip : OkSD (sSkip τ h) N M = N τ h := rfl
theorem d_v_Seq : OkSD (sSeq s1 s2 τ h) N M = OkSD (s1 τ h) (fun τ' h' => OkSD (s2 τ' h') N M) M := by
  unfold sSeq; cases s1 τ h <;> rfl
theorem d_v_If : OkSD (sIf sa s1 s2 τ h) N M = OkD (sa τ h) fun b h1 => if b = true then OkSD (s1 τ h1) N M else OkSD (s2 τ h1) N M := by
  unfold sIf; rw [d_w_fl]; congr 1; funext b h1; cases b <;> rfl
theorem d_v_Ret : OkSD (sRet f τ h) N M = OkD (f τ h) M := by unfold sRet; rw [d_w_fl]; rfl
theorem d_v_Expr : OkSD (sExpr f τ h) N M = OkD (f τ h) fun _ h1 => N τ h1 := by unfold sExpr; rw [d_w_fl]; rfl
theorem d_v_Set : OkSD (sSet i f τ h) N M = OkD (f τ h) fun t h1 => N (τ.set i (some t)) h1 := by unfold sSet; rw [d_w_fl]; rfl
theorem d_v_Tp : OkSD (sTp pt f τ h) N M = OkD (f τ h) fun t h1 => ∃ τ', bindP pt t τ = some τ' ∧ N τ' h1 := by
  unfold sTp; rw [d_w_fl]; congr 1; funext t h1
  cases bindP pt t τ with
  | none => exact propext ⟨fun z => z.elim, fun ⟨_, z, _⟩ => nomatch z⟩
  | some a => exact propext ⟨fun z => ⟨a, rfl, z⟩, fun ⟨_, z, p⟩ => by cases z; exact p⟩
theorem d_v_Par {is : List Nat} : OkSD (sPar is fs τ h) N M = OkD (fs τ h) fun ts h1 => ∃ τ', setAll is ts τ = some τ' ∧ N τ' h1 := by
  unfold sPar; rw [d_w_fl]; congr 1; funext t h1
  cases setAll is t τ with
  | none => exact propext ⟨fun z => z.elim, fun ⟨_, z, _⟩ => nomatch z⟩
  | some a => exact propext ⟨fun z => ⟨a, rfl, z⟩, fun ⟨_, z, p⟩ => by cases z; exact p⟩
theorem d_v_For : OkSD (sFor it pt s1 τ h) N M = OkD (it τ h) fun ts h1 => OkSD (forGo pt s1 ts τ h1) N M := by unfold sFor; rw [d_w_fl]
theorem d_v_forN : OkSD (forGo pt s1 [] τ h) N M = N τ h := rfl
theorem d_v_forC {ts : List T} : OkSD (forGo pt s1 (t :: ts) τ h) N M = ∃ τ1, bindP pt t τ = some τ1 ∧ OkSD (s1 τ1 h) (fun τ2 h2 => OkSD (forGo pt s1 ts τ2 h2) N M) M := by
  show OkSD (match bindP pt t τ with | none => .no | some τ1 => match s1 τ1 h with | .nx τ2 h2 => forGo pt s1 ts τ2 h2 | r => r) N M = _
  cases bindP pt t τ with
  | none => exact propext ⟨fun z => z.elim, fun ⟨_, z, _⟩ => nomatch z⟩
  | some a =>
    have e : OkSD (match s1 a h with | .nx τ2 h2 => forGo pt s1 ts τ2 h2 | r => r) N M = OkSD (s1 a h) (fun τ2 h2 => OkSD (forGo pt s1 ts τ2 h2) N M) M := by cases s1 a h <;> rfl
    exact e.trans (propext ⟨fun z => ⟨a, rfl, z⟩, fun ⟨_, z, p⟩ => by cases z; exact p⟩)
theorem d_v_App : OkSD (sApp i f τ h) N M = ∃ ts, τ[i]? = some (some (.lst ts)) ∧ OkD (f τ h) fun t h1 => ts.length < sizeLine ∧ N (τ.set i (some (.lst (ts ++ [t])))) h1 := by
  unfold sApp
  split
  · rename_i ts e
    simp only [d_w_fl, d_v_iteN, d_v_nx, e]
    exact propext ⟨fun z => ⟨ts, rfl, z⟩, fun ⟨_, z, p⟩ => by cases z; exact p⟩
  · rename_i e
    exact propext ⟨fun z => z.elim, fun ⟨ts, z, p⟩ => (e ts z).elim⟩
theorem d_v_Mut {w : List T → List T} : OkSD (sMut i w τ h) N M = ∃ ts, τ[i]? = some (some (.lst ts)) ∧ N (τ.set i (some (.lst (w ts)))) h := by
  unfold sMut
  split
  · rename_i ts e
    simp only [d_v_nx, e]
    exact propext ⟨fun z => ⟨ts, rfl, z⟩, fun ⟨_, z, p⟩ => by cases z; exact p⟩
  · rename_i e
    exact propext ⟨fun z => z.elim, fun ⟨ts, z, p⟩ => (e ts z).elim⟩
theorem d_v_Ext : OkSD (sExt i f τ h) N M = ∃ ts, τ[i]? = some (some (.lst ts)) ∧ OkD (f τ h) fun t h1 => ∃ us, t = .lst us ∧ ts.length + us.length ≤ sizeLine ∧ N (τ.set i (some (.lst (ts ++ us)))) h1 := by
  unfold sExt
  split
  · rename_i ts e
    simp only [d_w_fl, e]
    have e2 : ∀ (t : T) (h1 : IH), OkSD (match t with | .lst us => if ts.length + us.length ≤ sizeLine then .nx (τ.set i (some (.lst (ts ++ us)))) h1 else .no | _ => .no) N M = ∃ us, t = .lst us ∧ ts.length + us.length ≤ sizeLine ∧ N (τ.set i (some (.lst (ts ++ us)))) h1 := fun t h1 => by
      cases t with
      | lst us => simp only [d_v_iteN, d_v_nx]; exact propext ⟨fun z => ⟨us, rfl, z⟩, fun ⟨_, z, p⟩ => by cases z; exact p⟩
      | _ => exact propext ⟨fun z => z.elim, fun ⟨_, z, p⟩ => nomatch z⟩
    refine propext ⟨fun z => ⟨ts, rfl, z.imp fun t h1 q => (e2 t h1).mp q⟩, fun ⟨_, z, p⟩ => by cases z; exact p.imp fun t h1 q => (e2 t h1).mpr q⟩
  · rename_i e
    exact propext ⟨fun z => z.elim, fun ⟨ts, z, p⟩ => (e ts z).elim⟩
theorem d_v_Put {fi fv : SE} : OkSD (sPut i fi fv τ h) N M = OkD (fv τ h) fun t h1 => ∃ ts, τ[i]? = some (some (.lst ts)) ∧ OkD (fi τ h1) fun k h2 => ∃ k', k = .int k' ∧ ∃ j, ixN ts.length k' = some j ∧ N (τ.set i (some (.lst (ts.set j t)))) h2 := by
  unfold sPut
  rw [d_w_fl]; congr 1; funext t h1
  split
  · rename_i ts e
    simp only [d_w_fl]
    have e2 : ∀ (k : T) (h2 : IH), OkSD (match k with | .int k => (match ixN ts.length k with | some j => .nx (τ.set i (some (.lst (ts.set j t)))) h2 | none => .no) | _ => .no) N M = ∃ k', k = .int k' ∧ ∃ j, ixN ts.length k' = some j ∧ N (τ.set i (some (.lst (ts.set j t)))) h2 := fun k h2 => by
      cases k with
      | int k =>
        have e3 : OkSD (match ixN ts.length k with | some j => .nx (τ.set i (some (.lst (ts.set j t)))) h2 | none => .no) N M = ∃ j, ixN ts.length k = some j ∧ N (τ.set i (some (.lst (ts.set j t)))) h2 := by
          cases ixN ts.length k with
          | none => exact propext ⟨fun z => z.elim, fun ⟨_, z, p⟩ => nomatch z⟩
          | some j => exact propext ⟨fun z => ⟨j, rfl, z⟩, fun ⟨_, z, p⟩ => by cases z; exact p⟩
        exact e3.trans (propext ⟨fun z => ⟨k, rfl, z⟩, fun ⟨_, z, p⟩ => by cases z; exact p⟩)
      | _ => exact propext ⟨fun z => z.elim, fun ⟨_, z, p⟩ => nomatch z⟩
    refine propext ⟨fun z => ⟨ts, e, z.imp fun t h1 q => (e2 t h1).mp q⟩, fun ⟨us, z, p⟩ => ?_⟩
    have z' := e.symm.trans z
    cases z'
    exact p.imp fun t h1 q => (e2 t h1).mpr q
  · rename_i e
    exact propext ⟨fun z => z.elim, fun ⟨ts, z, p⟩ => (e ts z).elim⟩
theorem d_v_PutB {fb fi fv : SE} : OkSD (sPutB fb fi fv τ h) N M = OkD (fv τ h) fun t h1 => OkD (fb τ h1) fun x h2 => OkD (fi τ h2) fun k h3 => ∃ n k' ts j, x = .box n ∧ k = .int k' ∧ h3[n]? = some (.lst ts) ∧ ixN ts.length k' = some j ∧ N τ (h3.set n (.lst (ts.set j t))) := by
  unfold sPutB
  simp only [d_w_fl]
  congr 1; funext t h1; congr 1; funext x h2; congr 1; funext k h3
  split
  · rename_i n k'
    split
    · rename_i ts e
      cases e2 : ixN ts.length k' with
      | none => exact propext ⟨fun z => z.elim, fun ⟨n2, k2, ts2, j, z1, z2, z3, z4, p⟩ => by cases z1; cases z2; have z := e.symm.trans z3; cases z; rw [e2] at z4; cases z4⟩
      | some j => exact propext ⟨fun z => ⟨n, k', ts, j, rfl, rfl, e, e2, z⟩, fun ⟨n2, k2, ts2, j, z1, z2, z3, z4, p⟩ => by cases z1; cases z2; have z := e.symm.trans z3; cases z; rw [e2] at z4; cases z4; exact p⟩
    · rename_i e
      exact propext ⟨fun z => z.elim, fun ⟨n2, k2, ts2, j, z1, z2, z3, z4, p⟩ => by cases z1; cases z2; exact (e ts2 z3).elim⟩
  · rename_i e
    exact propext ⟨fun z => z.elim, fun ⟨n2, k2, ts2, j, z1, z2, z3, z4, p⟩ => (e n2 k2 z1 z2).elim⟩
theorem ex_eqT {p : T → Prop} {a : T} : (∃ t, (some (some a) : Option (Option T)) = some (some t) ∧ p t) = p a := propext ⟨fun ⟨z, e, k⟩ => by cases e; exact k, fun z => ⟨a, rfl, z⟩⟩
theorem ex_eqL {p : List T → Prop} {a : List T} : (∃ t, (some (some (T.lst a)) : Option (Option T)) = some (some (.lst t)) ∧ p t) = p a := propext ⟨fun ⟨z, e, k⟩ => by cases e; exact k, fun z => ⟨a, rfl, z⟩⟩
theorem ex_lst {p : List T → Prop} {a : List T} : (∃ t, T.lst a = .lst t ∧ p t) = p a := propext ⟨fun ⟨z, e, k⟩ => by cases e; exact k, fun z => ⟨a, rfl, z⟩⟩
theorem ex_bl {p : Bool → Prop} {a : Bool} : (∃ t, T.bl a = .bl t ∧ p t) = p a := propext ⟨fun ⟨z, e, k⟩ => by cases e; exact k, fun z => ⟨a, rfl, z⟩⟩
theorem ex_str {p : Str → Prop} {a : Str} : (∃ t, T.str a = .str t ∧ p t) = p a := propext ⟨fun ⟨z, e, k⟩ => by cases e; exact k, fun z => ⟨a, rfl, z⟩⟩
theorem ex_int {p : Int → Prop} {a : Int} : (∃ t, T.int a = .int t ∧ p t) = p a := propext ⟨fun ⟨z, e, k⟩ => by cases e; exact k, fun z => ⟨a, rfl, z⟩⟩
theorem if_dec {c : Prop} [Decidable c] {p q : Prop} : (if decide c = true then p else q) = if c then p else q := by
  by_cases z : c
  · rw [if_pos z, if_pos (decide_eq_true z)]
  · rw [if_neg z, if_neg (by rw [decide_eq_true_eq]; exact z)]
theorem d_w_iMap {gg : T → IH → Option (List T)} : OkD (iMap f gg τ h) PL = OkD (f τ h) fun x h1 => ∃ ts, gg x h1 = some ts ∧ PL ts h1 := by
  unfold iMap; simp only [d_w_bind, d_w_of]
theorem d_w_iR1 : OkD (iR1 f τ h) PL = OkD (f τ h) fun x h1 => ∃ j, x = .int j ∧ okR j = true ∧ PL (rngL 0 j.toNat 1) h1 := by
  unfold iR1; rw [d_w_bind]; congr 1; funext x h1
  cases x with
  | int b => simp only [d_w_iteN, d_w_ok]; exact propext ⟨fun z => ⟨b, rfl, z⟩, fun ⟨_, z, p⟩ => by cases z; exact p⟩
  | _ => exact propext ⟨fun z => z.elim, fun ⟨_, z, p⟩ => nomatch z⟩
theorem d_w_iR2 : OkD (iR2 f g τ h) PL = OkD (f τ h) fun x h1 => OkD (g τ h1) fun y h2 => ∃ i j, x = .int i ∧ y = .int j ∧ (okR i && okR j) = true ∧ PL (rngL i (j - i).toNat 1) h2 := by
  unfold iR2; simp only [d_w_bind]; congr 1; funext x h1; congr 1; funext y h2
  split
  · rename_i i j; simp only [d_w_iteN, d_w_ok]; exact propext ⟨fun z => ⟨i, j, rfl, rfl, z⟩, fun ⟨_, _, z, z', p⟩ => by cases z; cases z'; exact p⟩
  · rename_i e; exact propext ⟨fun z => z.elim, fun ⟨i, j, z, z', p⟩ => (e i j z z').elim⟩
theorem d_w_iR3 : OkD (iR3 f g c τ h) PL = OkD (f τ h) fun x h1 => OkD (g τ h1) fun y h2 => OkD (c τ h2) fun z h3 => ∃ i j, x = .int i ∧ y = .int j ∧ z = .int (-1) ∧ (okR i && okR j) = true ∧ PL (rngL i (i - j).toNat (-1)) h3 := by
  unfold iR3; simp only [d_w_bind]; congr 1; funext x h1; congr 1; funext y h2; congr 1; funext z h3
  split
  · rename_i i j; rw [d_w_iteN, d_w_ok]; exact propext ⟨fun z => ⟨i, j, rfl, rfl, rfl, z⟩, fun ⟨_, _, z, z', _, p⟩ => by cases z; cases z'; exact p⟩
  · rename_i e; exact propext ⟨fun z => z.elim, fun ⟨i, j, z, z', z2, p⟩ => (e i j z z' z2).elim⟩
theorem d_w_iZ {g1 g2 : T → IH → Option (List T)} : OkD (iZ g1 g2 f g τ h) PL = OkD (f τ h) fun x h1 => OkD (g τ h1) fun y h2 => ∃ xs, g1 x h2 = some xs ∧ ∃ ys, g2 y h2 = some ys ∧ PL (zipT xs ys) h2 := by
  unfold iZ; simp only [d_w_bind]; congr 1; funext x h1; congr 1; funext y h2
  cases g1 x h2 with
  | none => exact propext ⟨fun z => z.elim, fun ⟨_, z, p⟩ => nomatch z⟩
  | some xs => cases g2 y h2 with
    | none => exact propext ⟨fun z => z.elim, fun ⟨_, _, _, z, p⟩ => nomatch z⟩
    | some ys => exact propext ⟨fun z => ⟨xs, rfl, ys, rfl, z⟩, fun ⟨_, z, _, z', p⟩ => by cases z; cases z'; exact p⟩
theorem d_w_Lc {own : List Nat} : OkD (eLc it own pt sa f τ h) P1 = OkD (it τ h) fun ts h1 => OkD (lcGo pt sa f (wipeT τ own) ts h1) fun ys h2 => ts.length ≤ sizeLine ∧ P1 (.lst ys) h2 := by
  unfold eLc; simp only [d_w_bind, d_w_iteN, d_w_ok]
theorem d_w_nx : OkD (nx r) P = OkD r P := by cases r <;> rfl
theorem d_w_lcN {τw : Ev} : OkD (lcGo pt sa f τw [] h) PL = PL [] h := rfl
theorem d_w_lcC {τw : Ev} {ts : List T} : OkD (lcGo pt sa f τw (t :: ts) h) PL = ∃ τ1, bindP pt t τw = some τ1 ∧ OkD (sa τ1 h) fun b h1 => if b = true then OkD (f τ1 h1) fun y h2 => OkD (lcGo pt sa f τw ts h2) fun ys h3 => PL (y :: ys) h3 else OkD (lcGo pt sa f τw ts h1) PL := by
  show OkD (match bindP pt t τw with | none => .no | some τ1 => (nx (sa τ1 h)).bind fun b h1 => if b = true then (nx (f τ1 h1)).bind fun y h2 => (lcGo pt sa f τw ts h2).bind fun ys h3 => .ok (y :: ys) h3 else lcGo pt sa f τw ts h1) PL = _
  cases bindP pt t τw with
  | none => exact propext ⟨fun z => z.elim, fun ⟨_, z, _⟩ => nomatch z⟩
  | some a =>
    simp only [d_w_bind, d_w_nx, d_w_ite, d_w_ok]
    exact propext ⟨fun z => ⟨a, rfl, z⟩, fun ⟨_, z, p⟩ => by cases z; exact p⟩
end
structure Ok {α : Type} (r : Rs α) (P : α → IH → Prop) : Prop where
  out : OkD r P
structure OkS (r : Fl) (N : Ev → IH → Prop) (Q : T → IH → Prop) : Prop where
  out : OkSD r N Q
theorem ok_eq {α : Type} (r : Rs α) (P : α → IH → Prop) : Ok r P = OkD r P := propext ⟨fun h => h.out, fun h => ⟨h⟩⟩
theorem okS_eq (r : Fl) (N : Ev → IH → Prop) (Q : T → IH → Prop) : OkS r N Q = OkSD r N Q := propext ⟨fun h => h.out, fun h => ⟨h⟩⟩
section
variable {α β : Type} {r : Rs α} {P P' : α → IH → Prop} {a : α} {h : IH} {τ : Ev} {k : α → IH → Rs β} {Q : β → IH → Prop} {N N' : Ev → IH → Prop} {M M' : T → IH → Prop}
theorem Ok.imp (o : Ok r P) (i : ∀ a h, P a h → P' a h) : Ok r P' := ⟨o.out.imp i⟩
theorem OkS.imp {r : Fl} (o : OkS r N M) (i : ∀ a h, N a h → N' a h) (j : ∀ a h, M a h → M' a h) : OkS r N' M' := ⟨o.out.imp i j⟩
theorem Ok.ex (o : Ok r P) : ∃ a h, r = .ok a h ∧ P a h := o.out.ex
theorem Ok.eq (o : Ok r fun b h' => b = a ∧ h' = h) : r = .ok a h := o.out.eq
theorem Ok.of_eq (e : r = .ok a h) (p : P a h) : Ok r P := ⟨OkD.of_eq e p⟩
theorem w_ok : Ok (.ok a h) P = P a h := by
  simp only [ok_eq, okS_eq]
  exact d_w_ok
theorem w_bind : Ok (r.bind k) Q = Ok r fun a h => Ok (k a h) Q := by
  simp only [ok_eq, okS_eq]
  exact d_w_bind
theorem w_of {o : Option α} : Ok (Rs.of o h) P = ∃ a, o = some a ∧ P a h := by
  simp only [ok_eq, okS_eq]
  exact d_w_of
theorem w_fl {k : α → IH → Fl} : OkS (r.fl τ k) N M = Ok r fun a h => OkS (k a h) N M := by
  simp only [ok_eq, okS_eq]
  exact d_w_fl
theorem w_ite {c : Prop} [Decidable c] {x y : Rs α} : Ok (if c then x else y) P = if c then Ok x P else Ok y P := by
  simp only [ok_eq, okS_eq]
  exact d_w_ite
theorem w_iteN {c : Prop} [Decidable c] {x : Rs α} : Ok (if c then x else .no) P = (c ∧ Ok x P) := by
  simp only [ok_eq, okS_eq]
  exact d_w_iteN
theorem v_iteN {c : Prop} [Decidable c] {x : Fl} : OkS (if c then x else .no) N M = (c ∧ OkS x N M) := by
  simp only [ok_eq, okS_eq]
  exact d_v_iteN
variable {P1 : T → IH → Prop} {PL : List T → IH → Prop} {PB : Bool → IH → Prop} {t : T} {i : Nat} {f g c : SE} {fs : SA} {sa sb : SB} {s1 s2 : SS} {o1 o2 : SO} {pt : Pat} {it : SI}
theorem w_C : Ok (eC t τ h) P1 = P1 t h := by
  simp only [ok_eq, okS_eq]
  exact d_w_C
theorem w_V : Ok (eV i τ h) P1 = ∃ t, τ[i]? = some (some t) ∧ P1 t h := by
  simp only [ok_eq, okS_eq]
  exact d_w_V
theorem w_Bin {o : G2} : Ok (eBin o f g τ h) P1 = Ok (f τ h) fun x h1 => Ok (g τ h1) fun y h2 => ∃ z, o x y h2 = some z ∧ P1 z h2 := by
  simp only [ok_eq, okS_eq]
  exact d_w_Bin
theorem w_Un {o : G1} : Ok (eUn o f τ h) P1 = Ok (f τ h) fun x h1 => ∃ z, o x h1 = some z ∧ P1 z h1 := by
  simp only [ok_eq, okS_eq]
  exact d_w_Un
theorem w_Nil : Ok (aNil τ h) PL = PL [] h := by
  simp only [ok_eq, okS_eq]
  exact d_w_Nil
theorem w_Cons : Ok (aCons f fs τ h) PL = Ok (f τ h) fun t h1 => Ok (fs τ h1) fun ts h2 => PL (t :: ts) h2 := by
  simp only [ok_eq, okS_eq]
  exact d_w_Cons
theorem w_Tup : Ok (eTup fs τ h) P1 = Ok (fs τ h) fun ts h1 => ts.length ≤ sizeLine ∧ P1 (.tup ts) h1 := by
  simp only [ok_eq, okS_eq]
  exact d_w_Tup
theorem w_Lst : Ok (eLst fs τ h) P1 = Ok (fs τ h) fun ts h1 => ts.length ≤ sizeLine ∧ P1 (.lst ts) h1 := by
  simp only [ok_eq, okS_eq]
  exact d_w_Lst
theorem w_Box : Ok (eBox fs τ h) P1 = Ok (fs τ h) fun ts h1 => ts.length ≤ sizeLine ∧ P1 (.box h1.length) (h1 ++ [.lst ts]) := by
  simp only [ok_eq, okS_eq]
  exact d_w_Box
theorem w_Of : Ok (sOf f τ h) PB = Ok (f τ h) fun x h1 => ∃ b, x = .bl b ∧ PB b h1 := by
  simp only [ok_eq, okS_eq]
  exact d_w_Of
theorem w_And : Ok (sAnd sa sb τ h) PB = Ok (sa τ h) fun b h1 => if b = true then Ok (sb τ h1) PB else PB false h1 := by
  simp only [ok_eq, okS_eq]
  exact d_w_And
theorem w_Or : Ok (sOr sa sb τ h) PB = Ok (sa τ h) fun b h1 => if b = true then PB true h1 else Ok (sb τ h1) PB := by
  simp only [ok_eq, okS_eq]
  exact d_w_Or
theorem w_Not : Ok (sNot sa τ h) PB = Ok (sa τ h) fun b h1 => PB (!b) h1 := by
  simp only [ok_eq, okS_eq]
  exact d_w_Not
theorem w_True : Ok (sTrue τ h) PB = PB true h := by
  simp only [ok_eq, okS_eq]
  exact d_w_True
theorem w_eAnd : Ok (eAnd f g τ h) P1 = Ok (f τ h) fun x h1 => ∃ b, x = .bl b ∧ if b = true then Ok (g τ h1) P1 else P1 (.bl false) h1 := by
  simp only [ok_eq, okS_eq]
  exact d_w_eAnd
theorem w_eOr : Ok (eOr f g τ h) P1 = Ok (f τ h) fun x h1 => ∃ b, x = .bl b ∧ if b = true then P1 (.bl true) h1 else Ok (g τ h1) P1 := by
  simp only [ok_eq, okS_eq]
  exact d_w_eOr
theorem w_eNot : Ok (eNot f τ h) P1 = Ok (f τ h) fun x h1 => ∃ b, x = .bl b ∧ P1 (.bl (!b)) h1 := by
  simp only [ok_eq, okS_eq]
  exact d_w_eNot
theorem w_If : Ok (eIf sa f g τ h) P1 = Ok (sa τ h) fun b h1 => if b = true then Ok (f τ h1) P1 else Ok (g τ h1) P1 := by
  simp only [ok_eq, okS_eq]
  exact d_w_If
theorem w_Chain {o1 o2 : G2} : Ok (eChain o1 o2 f g c τ h) P1 = Ok (f τ h) fun x h1 => Ok (g τ h1) fun y h2 => ∃ z, o1 x y h2 = some z ∧ ∃ b, z = .bl b ∧ if b = true then Ok (c τ h2) fun w h4 => ∃ z, o2 y w h4 = some z ∧ P1 z h4 else P1 (.bl false) h2 := by
  simp only [ok_eq, okS_eq]
  exact d_w_Chain
theorem w_oN {PO : Option Int → IH → Prop} : Ok (oNone τ h) PO = PO none h := by
  simp only [ok_eq, okS_eq]
  exact d_w_oN
theorem w_oS {PO : Option Int → IH → Prop} : Ok (oSome f τ h) PO = Ok (f τ h) fun x h1 => ∃ i, x = .int i ∧ PO (some i) h1 := by
  simp only [ok_eq, okS_eq]
  exact d_w_oS
theorem w_Sl {o : G3} : Ok (eSl o f o1 o2 τ h) P1 = Ok (f τ h) fun x h1 => Ok (o1 τ h1) fun l h2 => Ok (o2 τ h2) fun u h3 => ∃ z, o x l u h3 = some z ∧ P1 z h3 := by
  simp only [ok_eq, okS_eq]
  exact d_w_Sl
theorem w_Call {F : SF} : Ok (eCall F fs τ h) P1 = Ok (fs τ h) fun ts h1 => Ok (F ts h1) P1 := by
  simp only [ok_eq, okS_eq]
  exact d_w_Call
theorem w_runF {n nl : Nat} {ts : List T} : Ok (runF n nl s1 ts h) P1 = (ts.length = n ∧ OkS (s1 (ts.map some ++ List.replicate (nl - n) none) h) (fun _ h' => P1 .non h') P1) := by
  simp only [ok_eq, okS_eq]
  exact d_w_runF
theorem v_nx : OkS (.nx τ h) N M = N τ h := by
  simp only [ok_eq, okS_eq]
  exact d_v_nx
theorem v_rt : OkS (.rt t h) N M = M t h := by
  simp only [ok_eq, okS_eq]
  exact d_v_rt
theorem v_Skip : OkS (sSkip τ h) N M = N τ h := by
  simp only [ok_eq, okS_eq]
  exact d_v_Skip
theorem v_Seq : OkS (sSeq s1 s2 τ h) N M = OkS (s1 τ h) (fun τ' h' => OkS (s2 τ' h') N M) M := by
  simp only [ok_eq, okS_eq]
  exact d_v_Seq
theorem v_If : OkS (sIf sa s1 s2 τ h) N M = Ok (sa τ h) fun b h1 => if b = true then OkS (s1 τ h1) N M else OkS (s2 τ h1) N M := by
  simp only [ok_eq, okS_eq]
  exact d_v_If
theorem v_Ret : OkS (sRet f τ h) N M = Ok (f τ h) M := by
  simp only [ok_eq, okS_eq]
  exact d_v_Ret
theorem v_Expr : OkS (sExpr f τ h) N M = Ok (f τ h) fun _ h1 => N τ h1 := by
  simp only [ok_eq, okS_eq]
  exact d_v_Expr
theorem v_Set : OkS (sSet i f τ h) N M = Ok (f τ h) fun t h1 => N (τ.set i (some t)) h1 := by
  simp only [ok_eq, okS_eq]
  exact d_v_Set
theorem v_Tp : OkS (sTp pt f τ h) N M = Ok (f τ h) fun t h1 => ∃ τ', bindP pt t τ = some τ' ∧ N τ' h1 := by
  simp only [ok_eq, okS_eq]
  exact d_v_Tp
theorem v_Par {is : List Nat} : OkS (sPar is fs τ h) N M = Ok (fs τ h) fun ts h1 => ∃ τ', setAll is ts τ = some τ' ∧ N τ' h1 := by
  simp only [ok_eq, okS_eq]
  exact d_v_Par
theorem v_For : OkS (sFor it pt s1 τ h) N M = Ok (it τ h) fun ts h1 => OkS (forGo pt s1 ts τ h1) N M := by
  simp only [ok_eq, okS_eq]
  exact d_v_For
theorem v_forN : OkS (forGo pt s1 [] τ h) N M = N τ h := by
  simp only [ok_eq, okS_eq]
  exact d_v_forN
theorem v_forC {ts : List T} : OkS (forGo pt s1 (t :: ts) τ h) N M = ∃ τ1, bindP pt t τ = some τ1 ∧ OkS (s1 τ1 h) (fun τ2 h2 => OkS (forGo pt s1 ts τ2 h2) N M) M := by
  simp only [ok_eq, okS_eq]
  exact d_v_forC
theorem v_App : OkS (sApp i f τ h) N M = ∃ ts, τ[i]? = some (some (.lst ts)) ∧ Ok (f τ h) fun t h1 => ts.length < sizeLine ∧ N (τ.set i (some (.lst (ts ++ [t])))) h1 := by
  simp only [ok_eq, okS_eq]
  exact d_v_App
theorem v_Mut {w : List T → List T} : OkS (sMut i w τ h) N M = ∃ ts, τ[i]? = some (some (.lst ts)) ∧ N (τ.set i (some (.lst (w ts)))) h := by
  simp only [ok_eq, okS_eq]
  exact d_v_Mut
theorem v_Ext : OkS (sExt i f τ h) N M = ∃ ts, τ[i]? = some (some (.lst ts)) ∧ Ok (f τ h) fun t h1 => ∃ us, t = .lst us ∧ ts.length + us.length ≤ sizeLine ∧ N (τ.set i (some (.lst (ts ++ us)))) h1 := by
  simp only [ok_eq, okS_eq]
  exact d_v_Ext
theorem v_Put {fi fv : SE} : OkS (sPut i fi fv τ h) N M = Ok (fv τ h) fun t h1 => ∃ ts, τ[i]? = some (some (.lst ts)) ∧ Ok (fi τ h1) fun k h2 => ∃ k', k = .int k' ∧ ∃ j, ixN ts.length k' = some j ∧ N (τ.set i (some (.lst (ts.set j t)))) h2 := by
  simp only [ok_eq, okS_eq]
  exact d_v_Put
theorem v_PutB {fb fi fv : SE} : OkS (sPutB fb fi fv τ h) N M = Ok (fv τ h) fun t h1 => Ok (fb τ h1) fun x h2 => Ok (fi τ h2) fun k h3 => ∃ n k' ts j, x = .box n ∧ k = .int k' ∧ h3[n]? = some (.lst ts) ∧ ixN ts.length k' = some j ∧ N τ (h3.set n (.lst (ts.set j t))) := by
  simp only [ok_eq, okS_eq]
  exact d_v_PutB
theorem w_iMap {gg : T → IH → Option (List T)} : Ok (iMap f gg τ h) PL = Ok (f τ h) fun x h1 => ∃ ts, gg x h1 = some ts ∧ PL ts h1 := by
  simp only [ok_eq, okS_eq]
  exact d_w_iMap
theorem w_iR1 : Ok (iR1 f τ h) PL = Ok (f τ h) fun x h1 => ∃ j, x = .int j ∧ okR j = true ∧ PL (rngL 0 j.toNat 1) h1 := by
  simp only [ok_eq, okS_eq]
  exact d_w_iR1
theorem w_iR2 : Ok (iR2 f g τ h) PL = Ok (f τ h) fun x h1 => Ok (g τ h1) fun y h2 => ∃ i j, x = .int i ∧ y = .int j ∧ (okR i && okR j) = true ∧ PL (rngL i (j - i).toNat 1) h2 := by
  simp only [ok_eq, okS_eq]
  exact d_w_iR2
theorem w_iR3 : Ok (iR3 f g c τ h) PL = Ok (f τ h) fun x h1 => Ok (g τ h1) fun y h2 => Ok (c τ h2) fun z h3 => ∃ i j, x = .int i ∧ y = .int j ∧ z = .int (-1) ∧ (okR i && okR j) = true ∧ PL (rngL i (i - j).toNat (-1)) h3 := by
  simp only [ok_eq, okS_eq]
  exact d_w_iR3
theorem w_iZ {g1 g2 : T → IH → Option (List T)} : Ok (iZ g1 g2 f g τ h) PL = Ok (f τ h) fun x h1 => Ok (g τ h1) fun y h2 => ∃ xs, g1 x h2 = some xs ∧ ∃ ys, g2 y h2 = some ys ∧ PL (zipT xs ys) h2 := by
  simp only [ok_eq, okS_eq]
  exact d_w_iZ
theorem w_Lc {own : List Nat} : Ok (eLc it own pt sa f τ h) P1 = Ok (it τ h) fun ts h1 => Ok (lcGo pt sa f (wipeT τ own) ts h1) fun ys h2 => ts.length ≤ sizeLine ∧ P1 (.lst ys) h2 := by
  simp only [ok_eq, okS_eq]
  exact d_w_Lc
theorem w_lcN {τw : Ev} : Ok (lcGo pt sa f τw [] h) PL = PL [] h := by
  simp only [ok_eq, okS_eq]
  exact d_w_lcN
theorem w_lcC {τw : Ev} {ts : List T} : Ok (lcGo pt sa f τw (t :: ts) h) PL = ∃ τ1, bindP pt t τw = some τ1 ∧ Ok (sa τ1 h) fun b h1 => if b = true then Ok (f τ1 h1) fun y h2 => Ok (lcGo pt sa f τw ts h2) fun ys h3 => PL (y :: ys) h3 else Ok (lcGo pt sa f τw ts h1) PL := by
  simp only [ok_eq, okS_eq]
  exact d_w_lcC
end
theorem w_CallB {P1 : T → IH → Prop} {F : SF} {fs : SA} {τ : Ev} {h : IH} : Ok (eCallB F fs τ h) P1 = Ok (fs τ h) fun ts h1 => Ok (F ts h1) fun t h2 => (scal t = true ∧ flatH h2 = true) ∧ P1 t h2 := by
  unfold eCallB
  rw [w_bind]
  congr 1; funext ts h1
  cases F ts h1 with
  | ok t h2 =>
    show Ok (if (scal t && flatH h2) = true then .ok t h2 else .no) P1 = _
    rw [w_iteN, w_ok, w_ok, Bool.and_eq_true]
  | exc x h2 => exact propext ⟨fun z => z.out.elim, fun z => z.out.elim⟩
  | no => exact propext ⟨fun z => z.out.elim, fun z => z.out.elim⟩
theorem w_eJoin {P1 : T → IH → Prop} {f g : SE} {τ : Ev} {h : IH} : Ok (eJoin f g τ h) P1 = Ok (f τ h) fun x h1 => ∃ z, x = .str z ∧ Ok (g τ h1) fun y h2 => ∃ w, gJoin (.str z) y h2 = some w ∧ P1 w h2 := by
  unfold eJoin
  rw [w_bind]
  congr 1; funext x h1
  cases x with
  | str z => simp only [w_bind, w_of]; exact propext ⟨fun q => ⟨z, rfl, q⟩, fun ⟨_, e, q⟩ => by cases e; exact q⟩
  | _ => exact propext ⟨fun z => z.out.elim, fun ⟨_, e, _⟩ => nomatch e⟩
theorem w_Rev {P1 : T → IH → Prop} {g : GR} {f : SE} {lo : SO} {τ : Ev} {h : IH} : Ok (eRev g f lo τ h) P1 = Ok (f τ h) fun x h1 => Ok (lo τ h1) fun l h2 => ∃ z, g x l h2 = some z ∧ P1 z h2 := by
  unfold eRev; simp only [w_bind, w_of]
inductive All2 {α β : Type} (S : α → β → Prop) : List α → List β → Prop
  | nil : All2 S [] []
  | cons {a b l m} : S a b → All2 S l m → All2 S (a :: l) (b :: m)
theorem All2.len {α β : Type} {S : α → β → Prop} {l : List α} {m : List β} (h : All2 S l m) : l.length = m.length := by
  induction h with
  | nil => rfl
  | cons _ _ ih => simp [ih]
theorem All2.imp {α β : Type} {S S' : α → β → Prop} {l : List α} {m : List β} (h : All2 S l m) (i : ∀ a b, S a b → S' a b) : All2 S' l m := by
  induction h with
  | nil => exact .nil
  | cons q _ ih => exact .cons (i _ _ q) ih
section
variable {pt : Pat} {body : SS} {sa : SB} {f : SE} {N : Ev → IH → Prop} {M : T → IH → Prop} {h : IH} {τ : Ev}
/-- an invariant of a for -/
theorem for_inv (I : List T → Ev → IH → Prop) {ts : List T} (h0 : I ts τ h)
    (step : ∀ t us τ h, I (t :: us) τ h → ∃ τ1, bindP pt t τ = some τ1 ∧ OkS (body τ1 h) (fun τ2 h2 => I us τ2 h2) M) (fin : ∀ τ h, I [] τ h → N τ h) : OkS (forGo pt body ts τ h) N M := by
  induction ts generalizing τ h with
  | nil => rw [v_forN]; exact fin τ h h0
  | cons t us ih =>
    rw [v_forC]
    obtain ⟨τ1, e, o⟩ := step t us τ h h0
    exact ⟨τ1, e, o.imp (fun τ2 h2 q => ih q) fun _ _ q => q⟩
/-- an invariant that every turn keeps -/
theorem for_keep (I : Ev → IH → Prop) {ts : List T} (h0 : I τ h)
    (step : ∀ t ∈ ts, ∀ τ h, I τ h → ∃ τ1, bindP pt t τ = some τ1 ∧ OkS (body τ1 h) I M) (fin : ∀ τ h, I τ h → N τ h) : OkS (forGo pt body ts τ h) N M := by
  refine for_inv (fun us τ h => (∀ t ∈ us, t ∈ ts) ∧ I τ h) ⟨fun _ m => m, h0⟩ (fun t us τ h ⟨m, i⟩ => ?_) fun τ h q => fin τ h q.2
  obtain ⟨τ1, e, o⟩ := step t (m t List.mem_cons_self) τ h i
  exact ⟨τ1, e, o.imp (fun τ2 h2 q => ⟨fun t' m' => m t' (List.mem_cons_of_mem _ m'), q⟩) fun _ _ q => q⟩
theorem range_forP (I : Nat → Ev → IH → Prop) {n : Nat} {lo c : Int} (h0 : I 0 τ h)
    (step : ∀ k τ h, k < n → I k τ h → ∃ τ1, bindP pt (.int (lo + (k : Int) * c)) τ = some τ1 ∧ OkS (body τ1 h) (fun τ2 h2 => I (k + 1) τ2 h2) M) (fin : ∀ τ h, I n τ h → N τ h) : OkS (forGo pt body (rngL lo n c) τ h) N M := by
  refine for_inv (fun us τ h => ∃ k, k ≤ n ∧ us = (rngL lo n c).drop k ∧ I k τ h) ⟨0, Nat.zero_le _, by simp, h0⟩ (fun t us τ h ⟨k, hk, e, i⟩ => ?_) fun τ h ⟨k, hk, e, i⟩ => ?_
  · have hl : (rngL lo n c).length = n := by simp [rngL]
    have hkn : k < n := by
      rcases Nat.lt_or_ge k n with q | q
      · exact q
      · rw [List.drop_eq_nil_of_le (by rw [hl]; exact q)] at e; cases e
    rw [List.drop_eq_getElem_cons (by rw [hl]; exact hkn)] at e
    have et : t = .int (lo + (k : Int) * c) := by
      have := (List.cons.inj e).1
      rw [this]; simp [rngL]
    have eu := (List.cons.inj e).2
    obtain ⟨τ1, e1, o⟩ := step k τ h hkn i
    exact ⟨τ1, by rw [et]; exact e1, o.imp (fun τ2 h2 q => ⟨k + 1, hkn, eu, q⟩) fun _ _ q => q⟩
  · have hl : (rngL lo n c).length = n := by simp [rngL]
    have : k = n := by
      rcases Nat.lt_or_ge k n with q | q
      · rw [List.drop_eq_getElem_cons (by rw [hl]; exact q)] at e; cases e
      · exact Nat.le_antisymm hk q
    rw [← this] at fin; exact fin τ h i
/-- a comprehension by an invariant on the heap and a promise for each item -/
theorem lc_all {τw : Ev} (I : IH → Prop) (S : T → T → Prop) {ts : List T} (hI : I h)
    (step : ∀ t ∈ ts, ∀ h, I h → ∃ τ1, bindP pt t τw = some τ1 ∧ Ok (sTrue τ1 h) fun b h1 => b = true ∧ Ok (f τ1 h1) fun y h2 => S t y ∧ I h2) :
    Ok (lcGo pt sTrue f τw ts h) fun ys h' => All2 S ts ys ∧ I h' := by
  induction ts generalizing h with
  | nil => rw [w_lcN]; exact ⟨.nil, hI⟩
  | cons t us ih =>
    rw [w_lcC]
    obtain ⟨τ1, e, o⟩ := step t List.mem_cons_self h hI
    refine ⟨τ1, e, ?_⟩
    rw [w_True] at o ⊢
    rw [if_pos rfl]
    exact o.2.imp fun y h2 ⟨q, i⟩ => (ih i fun t' m => step t' (List.mem_cons_of_mem _ m)).imp fun ys h3 ⟨k, i'⟩ => ⟨.cons q k, i'⟩
/-- a comprehension with a test, pure -/
theorem lc_filter {α : Type} {τw : Ev} {xs : List α} {u : α → T} {c : α → Bool} {g : α → T} {τo : α → Ev} (h1 : ∀ x ∈ xs, bindP pt (u x) τw = some (τo x)) (h2 : ∀ x ∈ xs, sa (τo x) h = .ok (c x) h) (h3 : ∀ x ∈ xs, c x = true → f (τo x) h = .ok (g x) h) :
    lcGo pt sa f τw (xs.map u) h = .ok ((xs.filter c).map g) h := by
  induction xs with
  | nil => rfl
  | cons x xs ih =>
    have ih := ih (fun y m => h1 y (List.mem_cons_of_mem _ m)) (fun y m => h2 y (List.mem_cons_of_mem _ m)) (fun y m => h3 y (List.mem_cons_of_mem _ m))
    rw [List.map_cons]
    unfold lcGo
    rw [h1 x List.mem_cons_self]
    show (nx (sa (τo x) h)).bind (fun b h1 => if b = true then (nx (f (τo x) h1)).bind fun y h2 => (lcGo pt sa f τw (xs.map u) h2).bind fun ys h3 => .ok (y :: ys) h3 else lcGo pt sa f τw (xs.map u) h1) = _
    rw [h2 x List.mem_cons_self]
    show (if c x = true then (nx (f (τo x) h)).bind fun y h2 => (lcGo pt sa f τw (xs.map u) h2).bind fun ys h3 => .ok (y :: ys) h3 else lcGo pt sa f τw (xs.map u) h) = _
    cases e : c x with
    | true =>
      rw [if_pos rfl, h3 x List.mem_cons_self e, List.filter_cons_of_pos e]
      show (lcGo pt sa f τw (xs.map u) h).bind (fun ys h3 => .ok (g x :: ys) h3) = _
      rw [ih]; rfl
    | false => rw [if_neg (by decide), ih, List.filter_cons_of_neg (by rw [e]; decide)]
theorem lc_maps {α : Type} {τw : Ev} {xs : List α} {u : α → T} {g : α → T} {τo : α → Ev} (h1 : ∀ x ∈ xs, bindP pt (u x) τw = some (τo x)) (h3 : ∀ x ∈ xs, f (τo x) h = .ok (g x) h) :
    lcGo pt sTrue f τw (xs.map u) h = .ok (xs.map g) h := by
  have := lc_filter (pt := pt) (sa := sTrue) (f := f) (h := h) (τw := τw) (c := fun _ => true) h1 (fun _ _ => rfl) (fun x m _ => h3 x m)
  rw [this, List.filter_eq_self.mpr (fun _ _ => rfl)]
theorem wh_inv {c : SB} {body : SS} (I : Nat → Ev → IH → Prop) : ∀ (n : Nat) (τ : Ev) (h : IH), I n τ h →
    (∀ n τ h, I n τ h → Ok (c τ h) fun b h1 => if b = true then OkS (body τ h1) (fun τ2 h2 => ∃ m, m < n ∧ I m τ2 h2) M else N τ h1) → OkS (sWh c body τ h) N M := by
  intro n
  induction n using Nat.strongRecOn with
  | _ n ih =>
    intro τ h i step
    have q := step n τ h i
    obtain ⟨b, h1, e, p⟩ := q.ex
    cases b with
    | false => rw [sWh_done e, v_nx]; exact p
    | true =>
      rw [if_pos rfl] at p
      cases eb : body τ h1 with
      | nx τ2 h2 =>
        rw [eb, v_nx] at p
        obtain ⟨m, hm, im⟩ := p
        rw [sWh_turn e eb]
        exact ih m hm τ2 h2 im step
      | rt t h2 => rw [eb, v_rt] at p; rw [sWh_ret e eb, v_rt]; exact p
      | exc x τ2 h2 => rw [eb] at p; exact p.out.elim
      | no => rw [eb] at p; exact p.out.elim
end
end GB
namespace GB
open PySem PySem.Spec PyProof.Rows L2
section
variable {h : IH} {a b : Int} {s : Str} {ts us : List T} {x y t u : T} {n : Nat}
theorem q_add : gAdd (.int a) (.int b) h = some (.int (a + b)) := rfl
theorem q_addT : gAdd (.tup ts) (.tup us) h = if ts.length + us.length ≤ sizeLine then some (.tup (ts ++ us)) else none := rfl
theorem q_sub : gSub (.int a) (.int b) h = some (.int (a - b)) := rfl
theorem q_mul : gMul (.int a) (.int b) h = if okMul a b = true then some (.int (a * b)) else none := rfl
theorem q_div : gDiv (.int a) (.int b) h = if okDiv a b = true then some (.int (a.fdiv b)) else none := rfl
theorem q_mod : gMod (.int a) (.int b) h = if okMod a b = true then some (.int (a.fmod b)) else none := rfl
theorem q_pow : gPow (.int a) (.int b) h = if okPow a b = true then some (.int (a ^ b.toNat)) else none := rfl
theorem q_shl : gShl (.int a) (.int b) h = if okPow a b = true then some (.int (a * 2 ^ b.toNat)) else none := rfl
theorem q_lt : gLt (.int a) (.int b) h = some (.bl (decide (a < b))) := rfl
theorem q_le : gLe (.int a) (.int b) h = some (.bl (decide (a ≤ b))) := rfl
theorem q_gt : gGt (.int a) (.int b) h = some (.bl (decide (b < a))) := rfl
theorem q_ge : gGe (.int a) (.int b) h = some (.bl (decide (b ≤ a))) := rfl
theorem q_max2 : gMax2 (.int a) (.int b) h = some (.int (if b > a then b else a)) := rfl
theorem q_min2 : gMin2 (.int a) (.int b) h = some (.int (if b < a then b else a)) := rfl
theorem q_neg : gNeg (.int a) h = some (.int (-a)) := rfl
theorem q_abs : gAbs (.int a) h = some (.int (a.natAbs : Int)) := rfl
theorem q_intI : gInt (.int a) h = some (.int a) := rfl
theorem q_intB {b : Bool} : gInt (.bl b) h = some (.int (if b then 1 else 0)) := rfl
theorem q_lenT : gLen (.tup ts) h = some (.int (ts.length : Int)) := rfl
theorem q_lenL : gLen (.lst ts) h = some (.int (ts.length : Int)) := rfl
theorem q_ixT : gIx (.tup ts) (.int a) h = atI ts a := rfl
theorem q_ixL : gIx (.lst ts) (.int a) h = atI ts a := rfl
theorem q_ixB (e : h[n]? = some (.lst ts)) : gIx (.box n) (.int a) h = atI ts a := by
  show (match h[n]? with | some (.lst ts) => some ts | _ => none).bind (fun ts => atI ts a) = _
  rw [e]; rfl
theorem q_tupL : gTuple (.lst ts) h = some (.tup ts) := rfl
theorem q_tupT : gTuple (.tup ts) h = some (.tup ts) := rfl
theorem q_lstL : gList (.lst ts) h = some (.lst ts) := rfl
theorem q_lstT : gList (.tup ts) h = some (.lst ts) := rfl
theorem q_isN {neg : Bool} : gIsN neg x .non h = some (.bl (neg ^^ isNon x)) := by cases x <;> rfl
theorem q_gL : gL (.lst ts) h = some ts := rfl
theorem q_gT : gT (.tup ts) h = some ts := rfl
theorem q_gEnL : gEnL (.lst ts) h = some (enumL ts) := rfl
theorem okMod_iff : (okMod a b = true) = (b ≠ 0) := by unfold okMod; exact decide_eq_true_eq
theorem okAll_iff : (okAll a b = true) = True := by simp [okAll]
theorem okPow_iff : (okPow a b = true) = (0 ≤ b ∧ b ≤ 1000000 ∧ a.natAbs < 2 ^ 64) := by unfold okPow; exact decide_eq_true_eq
theorem okR_iff : (okR a = true) = (-4611686018427387904 ≤ a ∧ a < 4611686018427387904) := by unfold okR; rw [decide_eq_true_eq]; rfl
/-- how many bits -/
theorem bits_le {k : Nat} (q : a.natAbs < 2 ^ k) : Builtin.Int.intBits a ≤ k := by
  unfold Builtin.Int.intBits
  split
  · exact Nat.zero_le _
  · rename_i z
    have hz : a.natAbs ≠ 0 := fun e => z (by rw [Int.natAbs_eq_zero.mp e]; rfl)
    have := (Nat.log2_lt hz).mpr q
    omega
theorem okMul_of {k l : Nat} (q : a.natAbs < 2 ^ k) (r : b.natAbs < 2 ^ l) (m : k + l ≤ 134217728) : okMul a b = true := by
  unfold okMul
  rw [decide_eq_true_eq]
  have := bits_le q
  have := bits_le r
  omega
theorem lt_of_abs {k : Nat} (h1 : a < 2 ^ k) (h2 : -(2 ^ k) < a) : a.natAbs < 2 ^ k := by
  have : ((2 ^ k : Nat) : Int) = 2 ^ k := by simp
  omega
/-- within 10 ^ 60 -/
theorem okMul_10 (h1 : a < 10 ^ 60) (h2 : -(10 ^ 60) < a) (h3 : b < 10 ^ 60) (h4 : -(10 ^ 60) < b) : okMul a b = true := by
  refine okMul_of (k := 200) (l := 200) (lt_of_abs ?_ ?_) (lt_of_abs ?_ ?_) (by decide)
  · exact Int.lt_of_lt_of_le h1 (by decide)
  · exact Int.lt_of_le_of_lt (by decide) h2
  · exact Int.lt_of_lt_of_le h3 (by decide)
  · exact Int.lt_of_le_of_lt (by decide) h4
theorem pow_le_250 : (10 : Int) ^ 70 ≤ 2 ^ 250 := by decide +kernel
theorem okDiv_10 (h1 : 0 < b) (h2 : b < 10 ^ 70) : okDiv a b = true := by
  unfold okDiv
  rw [decide_eq_true_eq]
  refine ⟨by omega, ?_⟩
  have : b.natAbs < 2 ^ 250 := lt_of_abs (Int.lt_of_lt_of_le h2 (pow_le_250)) (by omega)
  have := (Nat.log2_lt (by omega)).mpr this
  omega
theorem fmod_p (h : 0 ≤ b) : a.fmod b = a % b := Int.fmod_eq_emod_of_nonneg a h
theorem fdiv_p (h : 0 ≤ b) : a.fdiv b = a / b := Int.fdiv_eq_ediv_of_nonneg a h
theorem shaped_int : SeqAt.shaped (.int a) = true := by
  unfold SeqAt.shaped
  simp only [PyData.canLay0, PyData.depth, Bool.true_and]
  rfl
theorem q_eq : gEq (.int a) (.int b) h = some (.bl (decide (a = b))) := by
  show (if (SeqAt.shaped (.int a) && SeqAt.shaped (.int b)) = true then some (T.bl (false ^^ PyData.eqv (.int a) (.int b))) else none) = _
  rw [shaped_int, shaped_int, if_pos (by rfl : (true && true) = true)]
  simp only [PyData.eqv, Bool.false_xor]
  rfl
theorem q_ne : gNe (.int a) (.int b) h = some (.bl (!decide (a = b))) := by
  show (if (SeqAt.shaped (.int a) && SeqAt.shaped (.int b)) = true then some (T.bl (true ^^ PyData.eqv (.int a) (.int b))) else none) = _
  rw [shaped_int, shaped_int, if_pos (by rfl : (true && true) = true)]
  simp only [PyData.eqv, Bool.true_xor]
  rfl
end
mutual
def shT : Nat → T → Bool
  | _, .non => true
  | _, .bl _ => true
  | _, .int _ => true
  | _, .str s => PyData.strOk s
  | 0, .tup _ => false
  | k + 1, .tup ts => shL k ts
  | 0, .lst _ => false
  | k + 1, .lst ts => shL k ts
  | _, .box _ => false
def shL : Nat → List T → Bool
  | _, [] => true
  | k, t :: ts => shT k t && shL k ts
end
mutual
theorem sh_py : ∀ (k : Nat) (t : T), shT k t = true → ∃ d, py0 t = some d ∧ d.canLay0 = true ∧ d.depth ≤ k
  | k, .non, e => ⟨_, rfl, by simp [PyData.canLay0], by simp [PyData.depth]⟩
  | k, .bl _, e => ⟨_, rfl, by simp [PyData.canLay0], by simp [PyData.depth]⟩
  | k, .int _, e => ⟨_, rfl, by simp [PyData.canLay0], by simp [PyData.depth]⟩
  | k, .str s, e => ⟨_, rfl, by simpa [PyData.canLay0, shT] using e, by simp [PyData.depth]⟩
  | 0, .tup _, e => by simp [shT] at e
  | k + 1, .tup ts, e => by
    obtain ⟨d, h1, h2, h3⟩ := shL_py k ts (by simpa [shT] using e)
    exact ⟨.tuple d, by simp [py0, h1], by simpa [PyData.canLay0] using h2, by simp only [PyData.depth]; omega⟩
  | 0, .lst _, e => by simp [shT] at e
  | k + 1, .lst ts, e => by
    obtain ⟨d, h1, h2, h3⟩ := shL_py k ts (by simpa [shT] using e)
    exact ⟨.list d, by simp [py0, h1], by simpa [PyData.canLay0] using h2, by simp only [PyData.depth]; omega⟩
  | k, .box _, e => by simp [shT] at e
theorem shL_py : ∀ (k : Nat) (ts : List T), shL k ts = true → ∃ d, pyL ts = some d ∧ PyData.canLayAll0 d = true ∧ PyData.depthAll d ≤ k
  | k, [], e => ⟨[], by simp [pyL], by simp [PyData.canLayAll0], by simp [PyData.depthAll]⟩
  | k, t :: ts, e => by
    simp only [shL, Bool.and_eq_true] at e
    obtain ⟨d, h1, h2, h3⟩ := sh_py k t e.1
    obtain ⟨ds, g1, g2, g3⟩ := shL_py k ts e.2
    exact ⟨d :: ds, by simp [pyL, h1, g1], by simp [PyData.canLayAll0, h2, g2], by simp only [PyData.depthAll]; omega⟩
end
section
variable {h : IH} {t : T} {k : Nat} {xs : List Int}
theorem sh_shaped (hk : k ≤ 64) (e : shT k t = true) : ∃ d, pyH h t = some d ∧ SeqAt.shaped d = true := by
  obtain ⟨d, h1, h2, h3⟩ := sh_py k t e
  refine ⟨d, ?_, by unfold SeqAt.shaped; rw [h2, decide_eq_true (by omega)]; rfl⟩
  cases t with
  | box n => cases k <;> simp [shT] at e
  | _ => exact h1
theorem q_eqR (hk : k ≤ 64) (e : shT k t = true) : gEq t t h = some (.bl true) := by
  obtain ⟨d, h1, h2⟩ := sh_shaped (h := h) hk e
  show (match pyH h t, pyH h t with | some d, some e => if (SeqAt.shaped d && SeqAt.shaped e) = true then some (T.bl (false ^^ PyData.eqv d e)) else none | _, _ => none) = _
  rw [h1]
  show (if (SeqAt.shaped d && SeqAt.shaped d) = true then some (T.bl (false ^^ PyData.eqv d d)) else none) = _
  rw [h2, if_pos (by rfl : (true && true) = true), SeqAt.eqv_refl d (SeqAt.canLay_of_shaped h2)]; rfl
theorem q_neR (hk : k ≤ 64) (e : shT k t = true) : gNe t t h = some (.bl false) := by
  obtain ⟨d, h1, h2⟩ := sh_shaped (h := h) hk e
  show (match pyH h t, pyH h t with | some d, some e => if (SeqAt.shaped d && SeqAt.shaped e) = true then some (T.bl (true ^^ PyData.eqv d e)) else none | _, _ => none) = _
  rw [h1]
  show (if (SeqAt.shaped d && SeqAt.shaped d) = true then some (T.bl (true ^^ PyData.eqv d d)) else none) = _
  rw [h2, if_pos (by rfl : (true && true) = true), SeqAt.eqv_refl d (SeqAt.canLay_of_shaped h2)]; rfl
theorem shL_all : ∀ {l : List T}, (∀ x ∈ l, shT k x = true) → shL k l = true
  | [], _ => rfl
  | x :: l, e => by
    simp only [shL, e x List.mem_cons_self, Bool.true_and]
    exact shL_all fun y m => e y (List.mem_cons_of_mem _ m)
theorem trus_int : ∀ (xs : List Int), truL (xs.map T.int) = some (xs.map (· != 0))
  | [] => rfl
  | x :: xs => by show (match truT (.int x), truL (xs.map T.int) with | some b, some bs => some (b :: bs) | _, _ => none) = _; rw [trus_int xs]; rfl
theorem trus_bl : ∀ (xs : List Bool), truL (xs.map T.bl) = some xs
  | [] => rfl
  | x :: xs => by show (match truT (.bl x), truL (xs.map T.bl) with | some b, some bs => some (b :: bs) | _, _ => none) = _; rw [trus_bl xs]; rfl
theorem q_anyI : gAny (.lst (xs.map T.int)) h = some (.bl (xs.any (· != 0))) := by
  show (truL (xs.map T.int)).map (fun is => T.bl (is.any id)) = _
  rw [trus_int]; show some (T.bl _) = _; rw [List.any_map]; rfl
theorem q_anyB {bs : List Bool} : gAny (.lst (bs.map T.bl)) h = some (.bl (bs.any id)) := by
  show (truL (bs.map T.bl)).map (fun is => T.bl (is.any id)) = _
  rw [trus_bl]; rfl
theorem q_allB {bs : List Bool} : gAll (.lst (bs.map T.bl)) h = some (.bl (bs.all id)) := by
  show (truL (bs.map T.bl)).map (fun is => T.bl (is.all id)) = _
  rw [trus_bl]; rfl
end
section
variable {α : Type} {a b c d e f : α} {l : List α}
theorem at_nat {k : Nat} : atI l (k : Int) = l[k]? := by
  unfold atI ixN
  rw [if_pos (by omega)]
  split
  · simp
  · rename_i q
    simp only [Option.bind_none]
    rw [List.getElem?_eq_none (by omega)]
theorem at0 : atI (a :: l) 0 = some a := at_nat (k := 0)
theorem at1 : atI (a :: b :: l) 1 = some b := at_nat (k := 1)
theorem at2 : atI (a :: b :: c :: l) 2 = some c := at_nat (k := 2)
theorem at3 : atI (a :: b :: c :: d :: l) 3 = some d := at_nat (k := 3)
theorem at4 : atI (a :: b :: c :: d :: e :: l) 4 = some e := at_nat (k := 4)
theorem at5 : atI (a :: b :: c :: d :: e :: f :: l) 5 = some f := at_nat (k := 5)
theorem at_last : atI (l ++ [a]) (-1) = some a := by
  unfold atI ixN
  rw [if_neg (by omega), if_pos (by simp; omega)]
  simp only [Option.bind_some, List.length_append, List.length_singleton]
  have : ((-1 : Int) + ((l.length + 1 : Nat) : Int)).toNat = l.length := by omega
  rw [this]; simp
theorem ix_nat {n k : Nat} (h : k < n) : ixN n (k : Int) = some k := by unfold ixN; rw [if_pos (by omega), if_pos (by omega)]; simp
end
end GB
namespace GB
open PySem PySem.Spec PyProof.Rows L2
/-- a bag of digits -/
def Bag (h : IH) (n : Nat) : Prop := ∃ c m : Int, h[n]? = some (.lst [.int c, .int m]) ∧ 0 ≤ c ∧ 0 ≤ m ∧ m < 2147483629 ∧ flatH h = true
theorem Bag.flat {h : IH} {n : Nat} (b : Bag h n) : flatH h = true := let ⟨_, _, _, _, _, _, f⟩ := b; f
theorem flat_end {h : IH} {a b : Int} (f : flatH h = true) : flatH (h ++ [.lst [.int a, .int b]]) = true := by
  unfold flatH at f ⊢
  rw [List.all_append, f]; rfl
theorem flat_set {h : IH} {n : Nat} {a b : Int} (f : flatH h = true) : flatH (h.set n (.lst [.int a, .int b])) = true := by
  unfold flatH at f ⊢
  rw [List.all_eq_true] at f ⊢
  intro c mc
  rcases List.mem_or_eq_of_mem_set mc with m | e
  · exact f c m
  · rw [e]; rfl
theorem set_get {h : IH} {n : Nat} {c d : Cell} (e : h[n]? = some c) : (h.set n d)[n]? = some d := by
  have := (List.getElem?_eq_some_iff.mp e).1
  rw [List.getElem?_set_self this]
theorem end_get {h : IH} {c : Cell} : (h ++ [c])[h.length]? = some c := by simp
/-- the items of a list of numbers -/
theorem int_at {ns : List Int} {k : Nat} (hk : k < ns.length) : atI (ns.map T.int) (k : Int) = some (.int (ns[k]'hk)) := by
  rw [at_nat, List.getElem?_map, List.getElem?_eq_getElem hk]; rfl
theorem int_atI {ns : List Int} {k : Int} (h0 : 0 ≤ k) (hk : k < ns.length) : ∃ z ∈ ns, atI (ns.map T.int) k = some (.int z) := by
  obtain ⟨j, rfl⟩ : ∃ j : Nat, k = j := ⟨k.toNat, by omega⟩
  have hj : j < ns.length := by omega
  exact ⟨ns[j], List.getElem_mem hj, int_at hj⟩
theorem two_line : (2 : Nat) ≤ sizeLine := by decide
theorem three_line : (3 : Nat) ≤ sizeLine := by decide
theorem le_line {n : Nat} (h : n ≤ 100000) : n ≤ sizeLine := Nat.le_trans h (by decide)
end GB
namespace GB
open PySem PySem.Spec PyProof.Rows L2
abbrev lineT (xs : List Int) (s : Int) : T := .tup [.str "line", .tup (xs.map T.int), .int s]
theorem all2_ints {p : Int → Prop} {ts ys : List T} (h : All2 (fun _ y => ∃ d, y = T.int d ∧ p d) ts ys) : ∃ xs : List Int, ys = xs.map T.int ∧ (∀ x ∈ xs, p x) ∧ xs.length = ts.length := by
  induction h with
  | nil => exact ⟨[], rfl, by simp, rfl⟩
  | cons q _ ih =>
    obtain ⟨d, rfl, pd⟩ := q
    obtain ⟨xs, rfl, h1, h2⟩ := ih
    exact ⟨d :: xs, rfl, fun x m => (List.mem_cons.mp m).elim (fun e => e ▸ pd) (h1 x), by simp [h2]⟩
/-- the greatest number without signs -/
def lead (xs : List Int) : Int := (xs.map fun x => (x.natAbs : Int)).foldl max 0
theorem foldl_max_le {m : Int} : ∀ (xs : List Int) (i : Int), i ≤ m → (∀ x ∈ xs, x ≤ m) → xs.foldl max i ≤ m
  | [], i, h, _ => h
  | x :: xs, i, h, k => foldl_max_le xs (max i x) (by have := k x List.mem_cons_self; omega) fun y my => k y (List.mem_cons_of_mem _ my)
theorem le_lead {xs : List Int} {x : Int} (h : x ∈ xs) : (x.natAbs : Int) ≤ lead xs := (foldl_max_ge _ 0).2 _ (List.mem_map.mpr ⟨x, h, rfl⟩)
theorem lead_nonneg {xs : List Int} : 0 ≤ lead xs := (foldl_max_ge _ 0).1
theorem lead_le {xs : List Int} {m : Int} (h0 : 0 ≤ m) (h : ∀ x ∈ xs, -m ≤ x ∧ x ≤ m) : lead xs ≤ m := foldl_max_le _ _ h0 fun y my => by
  obtain ⟨x, mx, rfl⟩ := List.mem_map.mp my
  have := h x mx; omega
theorem lead_pos {xs : List Int} (h : ∃ x ∈ xs, x ≠ 0) : 1 ≤ lead xs := by
  obtain ⟨x, mx, nz⟩ := h
  have := le_lead mx; omega
theorem mul_box {k x a b : Int} (k0 : 0 ≤ k) (k1 : k ≤ a) (x0 : -b ≤ x) (x1 : x ≤ b) : -(a * b) ≤ k * x ∧ k * x ≤ a * b := by
  have h1 : k * x ≤ a * b := Int.le_trans (Int.mul_le_mul_of_nonneg_left x1 k0) (Int.mul_le_mul_of_nonneg_right k1 (by omega))
  have h2 : k * (-x) ≤ a * b := Int.le_trans (Int.mul_le_mul_of_nonneg_left (by omega : -x ≤ b) k0) (Int.mul_le_mul_of_nonneg_right k1 (by omega))
  rw [Int.mul_neg] at h2
  omega
/-- to the nearest whole number, halves away from 0 -/
def near (u l : Int) : Int := if u < 0 then -((2 * (u.natAbs : Int) + l) / (2 * l)) else (2 * (u.natAbs : Int) + l) / (2 * l)
theorem ediv_is {n d q : Int} (h : 0 < d) (a : q * d ≤ n) (b : n < (q + 1) * d) : n / d = q := by
  have h1 := (Int.le_ediv_iff_mul_le h).mpr a
  have h2 := (Int.ediv_lt_iff_lt_mul h).mpr b
  omega
theorem near_floor {u l : Int} (h : 0 < l) : near u l = if l < 2 * (u % l) ∨ (2 * (u % l) = l ∧ 0 ≤ u) then u / l + 1 else u / l := by
  have e := Int.mul_ediv_add_emod u l
  have r0 := Int.emod_nonneg u (by omega : l ≠ 0)
  have r1 := Int.emod_lt_of_pos u h
  generalize u / l = a at e ⊢
  generalize u % l = r at e r0 r1 ⊢
  have e' : u = l * a + r := e.symm
  unfold near
  have ea : a * (2 * l) = 2 * (l * a) := by rw [Int.mul_left_comm, Int.mul_comm a l]
  have ea1 : (a + 1) * (2 * l) = 2 * (l * a) + 2 * l := by rw [Int.add_mul, ea]; omega
  have ea2 : (a + 1 + 1) * (2 * l) = 2 * (l * a) + 4 * l := by rw [Int.add_mul, ea1]; omega
  have en : -a * (2 * l) = -(2 * (l * a)) := by rw [Int.neg_mul, ea]
  have en1 : (-a + 1) * (2 * l) = -(2 * (l * a)) + 2 * l := by rw [Int.add_mul, en]; omega
  have en2 : (-a - 1) * (2 * l) = -(2 * (l * a)) - 2 * l := by rw [Int.sub_mul, en]; omega
  have en3 : (-a - 1 + 1) * (2 * l) = -(2 * (l * a)) := by rw [Int.add_mul, en2]; omega
  by_cases q : u < 0
  · rw [if_pos q]
    have eu : (u.natAbs : Int) = -(l * a) - r := by omega
    rw [eu]
    by_cases c : l < 2 * r
    · rw [if_pos (.inl c)]
      rw [ediv_is (q := -a - 1) (by omega) (by rw [en2]; omega) (by rw [en3]; omega)]
      omega
    · rw [if_neg (by omega)]
      rw [ediv_is (q := -a) (by omega) (by rw [en]; omega) (by rw [en1]; omega)]
      omega
  · rw [if_neg q]
    have eu : (u.natAbs : Int) = l * a + r := by omega
    rw [eu]
    by_cases c : l ≤ 2 * r
    · rw [if_pos (by omega)]
      exact ediv_is (by omega) (by rw [ea1]; omega) (by rw [ea2]; omega)
    · rw [if_neg (by omega)]
      exact ediv_is (by omega) (by rw [ea]; omega) (by rw [ea1]; omega)
theorem near_zero {l : Int} (h : 0 < l) : near 0 l = 0 := by
  rw [near_floor h, Int.zero_emod, Int.zero_ediv, if_neg (by omega)]
end GB
namespace GB
open PySem PySem.Spec PyProof.Rows L2
theorem is_int_non  {h : IH} : gIsi ["int"] .non h = some (.bl false) := rfl
theorem is_int_bl {b : Bool} {h : IH} : gIsi ["int"] (.bl b) h = some (.bl true) := rfl
theorem is_int_int {i : Int} {h : IH} : gIsi ["int"] (.int i) h = some (.bl true) := rfl
theorem is_int_str {z : Str} {h : IH} : gIsi ["int"] (.str z) h = some (.bl false) := rfl
theorem is_int_tup {ts : List T} {h : IH} : gIsi ["int"] (.tup ts) h = some (.bl false) := rfl
theorem is_int_lst {ts : List T} {h : IH} : gIsi ["int"] (.lst ts) h = some (.bl false) := rfl
theorem is_bool_non  {h : IH} : gIsi ["bool"] .non h = some (.bl false) := rfl
theorem is_bool_bl {b : Bool} {h : IH} : gIsi ["bool"] (.bl b) h = some (.bl true) := rfl
theorem is_bool_int {i : Int} {h : IH} : gIsi ["bool"] (.int i) h = some (.bl false) := rfl
theorem is_bool_str {z : Str} {h : IH} : gIsi ["bool"] (.str z) h = some (.bl false) := rfl
theorem is_bool_tup {ts : List T} {h : IH} : gIsi ["bool"] (.tup ts) h = some (.bl false) := rfl
theorem is_bool_lst {ts : List T} {h : IH} : gIsi ["bool"] (.lst ts) h = some (.bl false) := rfl
theorem is_str_non  {h : IH} : gIsi ["str"] .non h = some (.bl false) := rfl
theorem is_str_bl {b : Bool} {h : IH} : gIsi ["str"] (.bl b) h = some (.bl false) := rfl
theorem is_str_int {i : Int} {h : IH} : gIsi ["str"] (.int i) h = some (.bl false) := rfl
theorem is_str_str {z : Str} {h : IH} : gIsi ["str"] (.str z) h = some (.bl true) := rfl
theorem is_str_tup {ts : List T} {h : IH} : gIsi ["str"] (.tup ts) h = some (.bl false) := rfl
theorem is_str_lst {ts : List T} {h : IH} : gIsi ["str"] (.lst ts) h = some (.bl false) := rfl
theorem is_tuple_non  {h : IH} : gIsi ["tuple"] .non h = some (.bl false) := rfl
theorem is_tuple_bl {b : Bool} {h : IH} : gIsi ["tuple"] (.bl b) h = some (.bl false) := rfl
theorem is_tuple_int {i : Int} {h : IH} : gIsi ["tuple"] (.int i) h = some (.bl false) := rfl
theorem is_tuple_str {z : Str} {h : IH} : gIsi ["tuple"] (.str z) h = some (.bl false) := rfl
theorem is_tuple_tup {ts : List T} {h : IH} : gIsi ["tuple"] (.tup ts) h = some (.bl true) := rfl
theorem is_tuple_lst {ts : List T} {h : IH} : gIsi ["tuple"] (.lst ts) h = some (.bl false) := rfl
theorem is_list_non  {h : IH} : gIsi ["list"] .non h = some (.bl false) := rfl
theorem is_list_bl {b : Bool} {h : IH} : gIsi ["list"] (.bl b) h = some (.bl false) := rfl
theorem is_list_int {i : Int} {h : IH} : gIsi ["list"] (.int i) h = some (.bl false) := rfl
theorem is_list_str {z : Str} {h : IH} : gIsi ["list"] (.str z) h = some (.bl false) := rfl
theorem is_list_tup {ts : List T} {h : IH} : gIsi ["list"] (.tup ts) h = some (.bl false) := rfl
theorem is_list_lst {ts : List T} {h : IH} : gIsi ["list"] (.lst ts) h = some (.bl true) := rfl
/-- in lowest terms; q above 0 -/
def lowT (p q : Int) : T := .tup [.int (p / (Int.gcd p q : Int)), .int (q / (Int.gcd p q : Int))]
theorem gcd_pos_of {p q : Int} (h : 0 < q) : 0 < (Int.gcd p q : Int) := by
  have := Int.gcd_pos_of_ne_zero_right p (by omega : q ≠ 0); omega
/-- a fraction in lowest terms, its lower number above 0 -/
structure Fq (p q : Int) : Prop where
  pos : 0 < q
  one : Int.gcd p q = 1
theorem Fq.low {p q : Int} (f : Fq p q) : lowT p q = .tup [.int p, .int q] := by
  unfold lowT; rw [f.one]; simp
theorem fq_of {p q : Int} (h : 0 < q) : Fq (p / (Int.gcd p q : Int)) (q / (Int.gcd p q : Int)) := by
  have g0 := gcd_pos_of (p := p) h
  obtain ⟨a, ea⟩ := Int.gcd_dvd_left p q
  obtain ⟨b, eb⟩ := Int.gcd_dvd_right p q
  generalize hg : (Int.gcd p q : Int) = g at *
  have e1 : p / g = a := by rw [ea]; exact Int.mul_ediv_cancel_left _ (by omega)
  have e2 : q / g = b := by rw [eb]; exact Int.mul_ediv_cancel_left _ (by omega)
  rw [e1, e2]
  refine ⟨?_, ?_⟩
  · rcases Int.lt_or_le 0 b with z | z
    · exact z
    · have : g * b ≤ g * 0 := Int.mul_le_mul_of_nonneg_left z (by omega)
      omega
  · have h1 := Int.gcd_mul_left g a b
    rw [← ea, ← eb] at h1
    have h2 : Int.gcd p q = g.natAbs := by omega
    rw [h2] at h1
    have h3 : g.natAbs * 1 = g.natAbs * Int.gcd a b := by omega
    exact (Nat.eq_of_mul_eq_mul_left (by omega) h3).symm
/-- the same number, the same fraction -/
theorem low_eq {p q r s : Int} (hq : 0 < q) (hs : 0 < s) (e : p * s = r * q) : lowT p q = lowT r s := by
  have g1 := gcd_pos_of (p := p) hq
  have g2 := gcd_pos_of (p := r) hs
  have hm1 : Int.gcd (p * s) (q * s) = Int.gcd p q * s.natAbs := Int.gcd_mul_right p s q
  have hm2 : Int.gcd (r * q) (s * q) = Int.gcd r s * q.natAbs := Int.gcd_mul_right r q s
  rw [e, Int.mul_comm q s] at hm1
  have hgg : (Int.gcd p q : Int) * s = (Int.gcd r s : Int) * q := by
    have h3 : (Int.gcd p q : Int) * (s.natAbs : Int) = (Int.gcd r s : Int) * (q.natAbs : Int) := by exact_mod_cast (hm1.symm.trans hm2)
    have h4 : (s.natAbs : Int) = s := by omega
    have h5 : (q.natAbs : Int) = q := by omega
    rw [h4, h5] at h3; exact h3
  obtain ⟨a, ea⟩ := Int.gcd_dvd_left p q
  obtain ⟨b, eb⟩ := Int.gcd_dvd_right p q
  obtain ⟨c, ec⟩ := Int.gcd_dvd_left r s
  obtain ⟨d, ed⟩ := Int.gcd_dvd_right r s
  unfold lowT
  generalize (Int.gcd p q : Int) = g at *
  generalize (Int.gcd r s : Int) = k at *
  have ne1 : g ≠ 0 := by omega
  have ne2 : k ≠ 0 := by omega
  have nq : q ≠ 0 := by omega
  have ns : s ≠ 0 := by omega
  have e1 : p / g = a := by rw [ea]; exact Int.mul_ediv_cancel_left _ ne1
  have e2 : q / g = b := by rw [eb]; exact Int.mul_ediv_cancel_left _ ne1
  have e3 : r / k = c := by rw [ec]; exact Int.mul_ediv_cancel_left _ ne2
  have e4 : s / k = d := by rw [ed]; exact Int.mul_ediv_cancel_left _ ne2
  rw [e1, e2, e3, e4]
  -- b = d
  have hbd : b = d := by
    have h6 : g * (k * d) = k * (g * b) := by rw [← ed, ← eb]; exact hgg
    have h7 : (g * k) * d = (g * k) * b := by rw [Int.mul_assoc, h6, Int.mul_comm g k, Int.mul_assoc]
    exact (Int.eq_of_mul_eq_mul_left (Int.mul_ne_zero ne1 ne2) h7).symm
  have hac : a = c := by
    have h6 : (g * a) * (k * d) = (k * c) * (g * b) := by rw [← ea, ← ed, ← ec, ← eb]; exact e
    have nd : d ≠ 0 := fun z => by rw [z, Int.mul_zero] at ed; exact ns ed
    have h7 : (g * k * d) * a = (g * k * d) * c := by
      have l1 : (g * a) * (k * d) = (g * k * d) * a := by ac_rfl
      have l2 : (k * c) * (g * b) = (g * k * b) * c := by ac_rfl
      rw [← l1, h6, l2, hbd]
    exact Int.eq_of_mul_eq_mul_left (Int.mul_ne_zero (Int.mul_ne_zero ne1 ne2) nd) h7
  rw [hac, hbd]
theorem div_gcd_le {p q m : Int} (h : 0 < q) (h1 : -m ≤ p) (h2 : p ≤ m) : -m ≤ p / (Int.gcd p q : Int) ∧ p / (Int.gcd p q : Int) ≤ m := by
  have g0 := gcd_pos_of (p := p) h
  obtain ⟨a, ea⟩ := Int.gcd_dvd_left p q
  generalize (Int.gcd p q : Int) = g at *
  have e1 : p / g = a := by rw [ea]; exact Int.mul_ediv_cancel_left _ (by omega)
  rw [e1]
  rcases Int.lt_or_le a 0 with z | z
  · have : g * a ≤ 1 * a := Int.mul_le_mul_of_nonpos_right (by omega) (by omega)
    omega
  · have : 1 * a ≤ g * a := Int.mul_le_mul_of_nonneg_right (by omega) z
    omega
end GB
namespace GB
open PySem PySem.Spec PyProof.Rows L2
abbrev machT (xs : List Int) (a b c d : Int) : T := .tup [.tup (xs.map T.int), .int a, .int b, .int c, .int d]
/-- a fraction in lowest terms whose numbers are at most m -/
structure FqB (m p q : Int) : Prop where
  fq : Fq p q
  lo : -m ≤ p
  hi : p ≤ m
  qm : q ≤ m
abbrev frT (p q : Int) : T := .tup [.int p, .int q]
abbrev Fr2 := Int × Int
abbrev frt (f : Fr2) : T := frT f.1 f.2
def frL (fs : List Fr2) : List T := fs.map frt
abbrev Fok (m : Int) (f : Fr2) : Prop := FqB m f.1 f.2
theorem q_slL {ts : List T} {lo hi : Option Int} {h : IH} : gSlL (.lst ts) lo hi h = some (.lst (cutL ts lo hi)) := rfl
theorem q_slT {ts : List T} {lo hi : Option Int} {h : IH} : gSlT (.tup ts) lo hi h = some (.tup (cutL ts lo hi)) := rfl
theorem cut_to {α : Type} {xs : List α} {k : Nat} : cutL xs none (some (k : Int)) = xs.take k := by
  unfold cutL
  rw [HT.sIx_none, HT.sIx_nat, List.drop_zero, Nat.sub_zero]
  rcases Nat.le_total k xs.length with h | h
  · rw [Nat.min_eq_left h]
  · rw [Nat.min_eq_right h, List.take_length, List.take_of_length_le h]
theorem cut_from {α : Type} {xs : List α} {k : Nat} : cutL xs (some (k : Int)) none = xs.drop k := by
  unfold cutL
  rw [HT.sIx_none, HT.sIx_nat]
  rcases Nat.le_total k xs.length with h | h
  · rw [Nat.min_eq_left h, List.take_of_length_le (by simp)]
  · rw [Nat.min_eq_right h, List.drop_eq_nil_of_le h, List.drop_eq_nil_of_le (Nat.le_refl _), List.take_nil]
theorem p_two {x : Int} : x ^ Int.toNat 2 = x * x := by show x ^ 2 = _; rw [Int.pow_succ, Int.pow_succ, Int.pow_zero, Int.one_mul]
/-- how far two ways lie apart, over both leads -/
def dif (xs ys : List Int) (L M : Int) : List Int := (xs.zip ys).map fun p => p.1 * M - p.2 * L
end GB
namespace GB
open PySem PySem.Spec PyProof.Rows L2
inductive Itm where
  | line (xs : List Int) (s : Int)
  | wait (n : Int)
  | tool (up : Bool)
  | mark (z : Str)
def itT : Itm → T
  | .line xs s => lineT xs s
  | .wait n => .tup [.str "wait", .int n]
  | .tool b => .tup [.str "tool", .str (if b then "up" else "down")]
  | .mark z => .tup [.str "mark", .str z]
def isL : Itm → Bool
  | .line _ _ => true
  | _ => false
structure LnOk (ax : Nat) (xs : List Int) (s : Int) : Prop where
  len : xs.length = ax
  bnd : ∀ x ∈ xs, -100 ≤ x ∧ x ≤ 100
  nz : ∃ x ∈ xs, x ≠ 0
  s1 : 1 ≤ s
  s2 : s ≤ 20
def OkI (ax : Nat) : Itm → Prop
  | .line xs s => LnOk ax xs s
  | _ => True
theorem LnOk.lead0 {ax : Nat} {xs : List Int} {s : Int} (o : LnOk ax xs s) : 1 ≤ lead xs := lead_pos o.nz
theorem LnOk.lead1 {ax : Nat} {xs : List Int} {s : Int} (o : LnOk ax xs s) : lead xs ≤ 100 := lead_le (by decide) o.bnd
def lowF (p q : Int) : Fr2 := (p / (Int.gcd p q : Int), q / (Int.gcd p q : Int))
theorem lowF_ok {m p q : Int} (h : 0 < q) (h1 : -m ≤ p) (h2 : p ≤ m) (h3 : q ≤ m) : Fok m (lowF p q) := by
  obtain ⟨b1, b2⟩ := div_gcd_le h h1 h2
  have g0 := gcd_pos_of (p := p) h
  have b3 := Int.ediv_le_self (b := (Int.gcd p q : Int)) (a := q) (by omega)
  exact ⟨fq_of h, b1, b2, Int.le_trans b3 h3⟩
def nought : Fr2 := (0, 1)
theorem nought_ok : Fok (10 ^ 13) nought := ⟨⟨by decide, by decide⟩, by decide, by decide, by decide⟩
def topF (s rate : Int) : Fr2 := lowF ((s * rate) * (s * rate)) 10000
def corF (c : Int) (xs ys : List Int) : Option Fr2 := if lead (dif xs ys (lead xs) (lead ys)) = 0 then none else some (lowF ((c * lead xs * lead ys) * (c * lead xs * lead ys)) (lead (dif xs ys (lead xs) (lead ys)) * lead (dif xs ys (lead xs) (lead ys))))
def oT : Option Fr2 → T
  | none => .non
  | some f => frt f
def lesserF (f g : Fr2) : Fr2 := if g.1 * f.2 < f.1 * g.2 then g else f
theorem lesserF_ok {m : Int} {f g : Fr2} (a : Fok m f) (b : Fok m g) : Fok m (lesserF f g) := by unfold lesserF; split <;> assumption
def ownF (c rate : Int) (a b : Itm) : Fr2 :=
  match a, b with
  | .line xs s, .line ys t => match corF c xs ys with
    | none => lesserF (topF s rate) (topF t rate)
    | some f => lesserF (lesserF (topF s rate) (topF t rate)) f
  | _, _ => nought
def ownsF (c rate : Int) : List Itm → List Fr2
  | [] => [nought]
  | i :: is => nought :: ((i :: is).zip is).map (fun p => ownF c rate p.1 p.2) ++ [nought]
theorem topF_ok {s rate : Int} (s1 : 1 ≤ s) (s2 : s ≤ 20) (r1 : 10 ≤ rate) (r2 : rate ≤ 200) : Fok (10 ^ 13) (topF s rate) := by
  have h1 : s * rate ≤ 20 * 200 := Int.mul_le_mul s2 r2 (by omega) (by decide)
  have h0 : 1 * 10 ≤ s * rate := Int.mul_le_mul s1 r1 (by decide) (by omega)
  have h2 : (s * rate) * (s * rate) ≤ 4000 * 4000 := Int.mul_le_mul h1 h1 (by omega) (by decide)
  have h3 : 0 ≤ (s * rate) * (s * rate) := Int.mul_nonneg (by omega) (by omega)
  exact lowF_ok (by decide) (by omega) (by omega) (by decide)
theorem dif_le {ax : Nat} {xs ys : List Int} {s t : Int} (a : LnOk ax xs s) (b : LnOk ax ys t) : lead (dif xs ys (lead xs) (lead ys)) ≤ 20000 := by
  refine lead_le (by decide) fun d md => ?_
  obtain ⟨p, mp, rfl⟩ := List.mem_map.mp md
  have m1 := a.bnd _ (List.of_mem_zip mp).1
  have m2 := b.bnd _ (List.of_mem_zip mp).2
  have L0 := a.lead0
  have L1 := a.lead1
  have M0 := b.lead0
  have M1 := b.lead1
  have h1 := mul_box (k := lead ys) (x := p.1) (by omega) M1 m1.1 m1.2
  have h2 := mul_box (k := lead xs) (x := p.2) (by omega) L1 m2.1 m2.2
  rw [Int.mul_comm (lead ys)] at h1
  rw [Int.mul_comm (lead xs)] at h2
  omega
theorem corF_ok {ax : Nat} {c : Int} {xs ys : List Int} {s t : Int} {f : Fr2} (c0 : 1 ≤ c) (c1 : c ≤ 50) (a : LnOk ax xs s) (b : LnOk ax ys t) (e : corF c xs ys = some f) : Fok (10 ^ 13) f := by
  unfold corF at e
  split at e
  · cases e
  · rename_i z
    cases e
    have dp := lead_nonneg (xs := dif xs ys (lead xs) (lead ys))
    have dl := dif_le a b
    have L0 := a.lead0
    have L1 := a.lead1
    have M0 := b.lead0
    have M1 := b.lead1
    have cl : c * lead xs ≤ 50 * 100 := Int.mul_le_mul c1 L1 (by omega) (by decide)
    have cl0 : 1 * 1 ≤ c * lead xs := Int.mul_le_mul c0 L0 (by decide) (by omega)
    have cm : c * lead xs * lead ys ≤ 50 * 100 * 100 := Int.mul_le_mul cl M1 (by omega) (by decide)
    have cm0 : 1 * 1 * 1 ≤ c * lead xs * lead ys := Int.mul_le_mul cl0 M0 (by decide) (by omega)
    have c2 : (c * lead xs * lead ys) * (c * lead xs * lead ys) ≤ (50 * 100 * 100) * (50 * 100 * 100) := Int.mul_le_mul cm cm (by omega) (by decide)
    have c3 : 0 ≤ (c * lead xs * lead ys) * (c * lead xs * lead ys) := Int.mul_nonneg (by omega) (by omega)
    have hh : lead (dif xs ys (lead xs) (lead ys)) * lead (dif xs ys (lead xs) (lead ys)) ≤ 20000 * 20000 := Int.mul_le_mul dl dl dp (by decide)
    have hh0 : 1 * 1 ≤ lead (dif xs ys (lead xs) (lead ys)) * lead (dif xs ys (lead xs) (lead ys)) := Int.mul_le_mul (by omega) (by omega) (by decide) (by omega)
    exact lowF_ok (by omega) (by omega) (by omega) (by omega)
theorem ownF_ok {ax : Nat} {c rate : Int} {a b : Itm} (c0 : 1 ≤ c) (c1 : c ≤ 50) (r1 : 10 ≤ rate) (r2 : rate ≤ 200) (ha : OkI ax a) (hb : OkI ax b) : Fok (10 ^ 13) (ownF c rate a b) := by
  unfold ownF
  split
  · rename_i xs s ys t
    have ta := topF_ok ha.s1 ha.s2 r1 r2
    have tb := topF_ok hb.s1 hb.s2 r1 r2
    split
    · exact lesserF_ok ta tb
    · rename_i f e
      exact lesserF_ok (lesserF_ok ta tb) (corF_ok c0 c1 ha hb e)
  · exact nought_ok
theorem ownsF_ok {ax : Nat} {c rate : Int} {is : List Itm} (c0 : 1 ≤ c) (c1 : c ≤ 50) (r1 : 10 ≤ rate) (r2 : rate ≤ 200) (h : ∀ i ∈ is, OkI ax i) : ∀ f ∈ ownsF c rate is, Fok (10 ^ 13) f := by
  cases is with
  | nil => intro f m; rw [List.mem_singleton.mp m]; exact nought_ok
  | cons i is =>
    intro f m
    rcases List.mem_append.mp m with m | m
    · rcases List.mem_cons.mp m with e | m
      · rw [e]; exact nought_ok
      · obtain ⟨p, mp, rfl⟩ := List.mem_map.mp m
        have := List.of_mem_zip mp
        exact ownF_ok c0 c1 r1 r2 (h _ this.1) (h _ (List.mem_cons_of_mem _ this.2))
    · rw [List.mem_singleton.mp m]; exact nought_ok
theorem ownsF_len {c rate : Int} {is : List Itm} : (ownsF c rate is).length = is.length + 1 := by
  cases is with
  | nil => rfl
  | cons i is => simp [ownsF, List.length_zip]
def itL (is : List Itm) : List T := is.map itT
theorem q_ixS {z : Str} {i : Int} {h : IH} : gIx (.str z) (.int i) h = if z.length ≤ sizeLine then (atI z.cps.toList i).map (fun c => T.str ⟨#[c]⟩) else none := rfl
theorem q_join {ts : List T} {zs : List Str} {h : IH} (e : strsL ts = some zs) (b : (zs.map (·.length)).sum ≤ 16777216) : gJoin (.str "") (.lst ts) h = some (.str (Txt.join "" zs)) := by
  show ((some ts).bind strsL).bind (fun ys => if (ys.map (·.length)).sum + ys.length * ("" : Str).length ≤ 16777216 then some (T.str (Txt.join "" ys)) else none) = _
  show (strsL ts).bind _ = _
  rw [e]
  show (if (zs.map (·.length)).sum + zs.length * ("" : Str).length ≤ 16777216 then some (T.str (Txt.join "" zs)) else none) = _
  rw [if_pos (by rw [show ("" : Str).length = 0 from rfl, Nat.mul_zero]; omega)]
theorem q_lnL {h : IH} : gEq (.str "line") (.str "line") h = some (.bl true) := q_eqR (k := 0) (by decide) (by decide +kernel)
theorem q_cat {a b : List T} {h : IH} : gCat (.lst a) (.lst b) h = if a.length + b.length ≤ sizeLine then some (.lst (a ++ b)) else none := rfl
/-- the own bound of border j -/
def ownAt (c rate : Int) (is : List Itm) (j : Nat) : Fr2 :=
  match j with
  | 0 => nought
  | j + 1 => match is[j]?, is[j + 1]? with
    | some a, some b => ownF c rate a b
    | _, _ => nought
theorem ownsF_at {c rate : Int} {is : List Itm} : ownsF c rate is = (List.range (is.length + 1)).map (ownAt c rate is) := by
  refine List.ext_getElem? fun j => ?_
  rw [List.getElem?_map]
  cases is with
  | nil =>
    cases j with
    | zero => rfl
    | succ j => rw [List.getElem?_eq_none (by simp [ownsF]), List.getElem?_eq_none (by simp)]; rfl
  | cons i is =>
    by_cases hj : j < (i :: is).length + 1
    · rw [List.getElem?_range hj]
      cases j with
      | zero => rfl
      | succ j =>
        show (((i :: is).zip is).map (fun p => ownF c rate p.1 p.2) ++ [nought])[j]? = some (match (i :: is)[j]?, (i :: is)[j + 1]? with | some a, some b => ownF c rate a b | _, _ => nought)
        have lz : (((i :: is).zip is).map (fun p => ownF c rate p.1 p.2)).length = is.length := by simp [List.length_zip]
        by_cases hm : j < is.length
        · have hj2 : j < (i :: is).length := by rw [List.length_cons]; omega
          have z1 : ((i :: is).zip is)[j]? = some ((i :: is)[j], is[j]) := List.getElem?_zip_eq_some.mpr ⟨List.getElem?_eq_getElem hj2, List.getElem?_eq_getElem hm⟩
          rw [List.getElem?_append_left (by rw [lz]; exact hm), List.getElem?_map, z1]
          rw [List.getElem?_eq_getElem hj2, List.getElem?_cons_succ, List.getElem?_eq_getElem hm]
          rfl
        · have e : j = is.length := by simp at hj; omega
          rw [List.getElem?_append_right (by rw [lz]; omega), lz, e, Nat.sub_self]
          rw [List.getElem?_eq_none (l := i :: is) (i := is.length + 1) (by simp)]
          cases (i :: is)[is.length]? <;> rfl
    · rw [List.getElem?_eq_none (by rw [ownsF_len]; omega), List.getElem?_eq_none (by simp; simp at hj; omega)]; rfl
end GB
namespace GB
open PySem PySem.Spec PyProof.Rows L2
def chg (v : Int) : Itm → Int
  | .line xs _ => 2 * v * lead xs
  | _ => 0
def plusK (f : Fr2) (k : Int) : Fr2 := (f.1 + k * f.2, f.2)
/-- a square as it comes up in a plan: not below 0, its numbers bounded -/
structure Bd (n : Nat) (f : Fr2) : Prop where
  fq : Fq f.1 f.2
  lo : 0 ≤ f.1
  hi : f.1 ≤ ((n : Int) + 1) * 10 ^ 18
  qm : f.2 ≤ 10 ^ 13
theorem Bd.mono {n m : Nat} {f : Fr2} (b : Bd n f) (h : n ≤ m) : Bd m f := ⟨b.fq, b.lo, by
  have := b.hi
  have : ((n : Int) + 1) * 10 ^ 18 ≤ ((m : Int) + 1) * 10 ^ 18 := Int.mul_le_mul_of_nonneg_right (by omega) (by decide)
  omega, b.qm⟩
theorem Bd.ok {n : Nat} {f : Fr2} (b : Bd n f) (h : n ≤ 1000000) : Fok (10 ^ 50) f := ⟨b.fq, by have := b.lo; omega, by
  have := b.hi
  have : ((n : Int) + 1) * 10 ^ 18 ≤ 1000001 * 10 ^ 18 := Int.mul_le_mul_of_nonneg_right (by omega) (by decide)
  omega, by have := b.qm; omega⟩
theorem Bd.of {f : Fr2} (k : Fok (10 ^ 13) f) (h : 0 ≤ f.1) : Bd 0 f := ⟨k.fq, h, by have := k.hi; omega, k.qm⟩
theorem lesserF_bd {n : Nat} {f g : Fr2} (a : Bd n f) (b : Bd n g) : Bd n (lesserF f g) := by unfold lesserF; split <;> assumption
theorem plusK_bd {n : Nat} {f : Fr2} {k : Int} (b : Bd n f) (k0 : 0 ≤ k) (k1 : k ≤ 10000) : Bd (n + 1) (plusK f k) := by
  have q0 := b.fq.pos
  have kq : k * f.2 ≤ 10000 * 10 ^ 13 := Int.mul_le_mul k1 b.qm (by omega) (by decide)
  have kq0 : 0 ≤ k * f.2 := Int.mul_nonneg k0 (by omega)
  refine ⟨⟨q0, ?_⟩, ?_, ?_, b.qm⟩
  · show Int.gcd (f.1 + k * f.2) f.2 = 1
    rw [Int.gcd_add_mul_right_left]; exact b.fq.one
  · show 0 ≤ f.1 + k * f.2
    have := b.lo; omega
  · show f.1 + k * f.2 ≤ _
    have := b.hi
    have e : (((n + 1 : Nat) : Int) + 1) * 10 ^ 18 = ((n : Int) + 1) * 10 ^ 18 + 10 ^ 18 := by
      rw [show ((n + 1 : Nat) : Int) = (n : Int) + 1 by omega, Int.add_mul ((n : Int) + 1) 1]
      omega
    rw [e]
    omega
def stepF (v : Int) (prev : Fr2) (i : Itm) (s : Fr2) : Fr2 := if isL i = true then lesserF s (plusK prev (chg v i)) else s
theorem chg_le {ax : Nat} {v : Int} {i : Itm} (v0 : 1 ≤ v) (v1 : v ≤ 50) (o : OkI ax i) : 0 ≤ chg v i ∧ chg v i ≤ 10000 := by
  cases i with
  | line xs s =>
    have lo : LnOk ax xs s := o
    have h1 : 2 * v * lead xs ≤ 2 * 50 * 100 := Int.mul_le_mul (by omega) lo.lead1 (by have := lo.lead0; omega) (by decide)
    have h0 : 0 ≤ 2 * v * lead xs := Int.mul_nonneg (by omega) (by have := lo.lead0; omega)
    exact ⟨h0, h1⟩
  | _ => exact ⟨Int.le_refl _, by show (0 : Int) ≤ 10000; decide⟩
theorem lowF_nn {p q : Int} (h : 0 ≤ p) : 0 ≤ (lowF p q).1 := Int.ediv_nonneg h (Int.natCast_nonneg _)
theorem lesserF_nn {f g : Fr2} (a : 0 ≤ f.1) (b : 0 ≤ g.1) : 0 ≤ (lesserF f g).1 := by unfold lesserF; split <;> assumption
theorem topF_nn {s r : Int} : 0 ≤ (topF s r).1 := lowF_nn (by
  rcases Int.le_total 0 (s * r) with h | h
  · exact Int.mul_nonneg h h
  · exact Int.mul_nonneg_of_nonpos_of_nonpos h h)
theorem sq_nn {a : Int} : 0 ≤ a * a := by
  rcases Int.le_total 0 a with h | h
  · exact Int.mul_nonneg h h
  · exact Int.mul_nonneg_of_nonpos_of_nonpos h h
theorem ownF_nn {c rate : Int} {a b : Itm} : 0 ≤ (ownF c rate a b).1 := by
  unfold ownF
  split
  · split
    · exact lesserF_nn topF_nn topF_nn
    · rename_i f e
      refine lesserF_nn (lesserF_nn topF_nn topF_nn) ?_
      unfold corF at e
      split at e
      · cases e
      · cases e; exact lowF_nn sq_nn
  · exact Int.le_refl _
theorem ownsF_bd {ax : Nat} {c rate : Int} {is : List Itm} (c0 : 1 ≤ c) (c1 : c ≤ 50) (r1 : 10 ≤ rate) (r2 : rate ≤ 200) (ok : ∀ i ∈ is, OkI ax i) : ∀ f ∈ ownsF c rate is, Bd 0 f := fun f mf => by
  refine Bd.of (ownsF_ok c0 c1 r1 r2 ok f mf) ?_
  rw [ownsF_at] at mf
  obtain ⟨j, mj, rfl⟩ := List.mem_map.mp mf
  cases j with
  | zero => exact Int.le_refl _
  | succ j =>
    show 0 ≤ (match is[j]?, is[j + 1]? with | some a, some b => ownF c rate a b | _, _ => nought).1
    split
    · exact ownF_nn
    · exact Int.le_refl _
theorem cut_last {α : Type} {xs : List α} {x : α} : cutL (xs ++ [x]) (some (-1)) none = [x] := by
  unfold cutL
  rw [HT.sIx_none]
  have e : HT.sIx (xs ++ [x]).length 0 (some (-1)) = xs.length := by
    show (if (-1 : Int) < 0 then ((-1 : Int) + ((xs ++ [x]).length : Int)).toNat else min ((-1 : Int)).toNat (xs ++ [x]).length) = _
    rw [if_pos (by decide), List.length_append]
    simp
    omega
  rw [e, List.drop_left, List.take_of_length_le (by simp)]
theorem q_revL {ts : List T} {lo : Option Int} {h : IH} : gRevL (.lst ts) lo h = some (.lst (ts.take (revTop ts.length lo)).reverse) := rfl
theorem q_revT {ts : List T} {h : IH} : gRevT (.tup ts) none h = some (.tup ts.reverse) := rfl
end GB
namespace GB
open PySem PySem.Spec PyProof.Rows L2
def leF (f g : Fr2) : Prop := f.1 * g.2 ≤ g.1 * f.2
theorem All2.append {α β : Type} {S : α → β → Prop} {l l' : List α} {m m' : List β} (h : All2 S l m) (h' : All2 S l' m') : All2 S (l ++ l') (m ++ m') := by
  induction h with
  | nil => exact h'
  | cons q _ ih => exact .cons q ih
theorem All2.reverse {α β : Type} {S : α → β → Prop} {l : List α} {m : List β} (h : All2 S l m) : All2 S l.reverse m.reverse := by
  induction h with
  | nil => exact .nil
  | cons q _ ih => rw [List.reverse_cons, List.reverse_cons]; exact ih.append (.cons q .nil)
theorem q_shr {a b : Int} {h : IH} : gShr (.int a) (.int b) h = if decide (0 ≤ b) = true then some (.int (a / 2 ^ b.toNat)) else none := rfl
theorem q_and {a b : Int} {h : IH} : gAnd (.int a) (.int b) h = some (.int (Builtin.bitAnd a b)) := rfl
theorem All2.zip {α β : Type} {S : α → β → Prop} {l : List α} {m : List β} (h : All2 S l m) : ∀ p ∈ l.zip m, S p.1 p.2 := by
  induction h with
  | nil => intro p mp; simp at mp
  | cons q _ ih =>
    intro p mp
    rcases List.mem_cons.mp mp with e | mp
    · rw [e]; exact q
    · exact ih p mp
end GB
namespace GB
open PySem PySem.Spec PyProof.Rows L2
/-- where a walk ends -/
def endF (v : Int) : Fr2 → List Itm → List Fr2 → Fr2
  | p, i :: is, s :: ss => endF v (stepF v p i s) is ss
  | p, _, _ => p
end GB
namespace GB
open PySem PySem.Spec PyProof.Rows L2
def sqAt (S : List Fr2) (j : Nat) : Fr2 := S.getD j nought
theorem sqAt_mem {S : List Fr2} {j : Nat} (h : j < S.length) : sqAt S j ∈ S := by
  unfold sqAt
  rw [List.getD_eq_getElem?_getD, List.getElem?_eq_getElem h]
  exact List.getElem_mem h
theorem plusK_0 {x : Fr2} : plusK x 0 = x := by
  show (x.1 + 0 * x.2, x.2) = x
  rw [Int.zero_mul, Int.add_zero]
theorem leF_antisymm {a b : Fr2} (ha : Fq a.1 a.2) (hb : Fq b.1 b.2) (h1 : leF a b) (h2 : leF b a) : a = b := by
  have e := low_eq ha.pos hb.pos (Int.le_antisymm h1 h2)
  rw [ha.low, hb.low] at e
  injection e with e
  injection e with e1 e
  injection e with e2 e
  injection e1 with e1
  injection e2 with e2
  exact Prod.ext e1 e2
def aheadL (r : Int) (is : List Itm) (O : Nat → Fr2) : Nat → Int → List (Nat × Fr2)
  | 0, _ => []
  | a + 1, w => match is[a]? with
    | some i => if isL i = true then (a, plusK (O a) (w + chg r i)) :: aheadL r is O a (w + chg r i) else []
    | none => []
def behindL (f : Int) (O : Nat → Fr2) : List Itm → Nat → Int → List (Nat × Fr2)
  | [], _, _ => []
  | i :: is, a, w => if isL i = true then (a + 1, plusK (O (a + 1)) (w + chg f i)) :: behindL f O is (a + 1) (w + chg f i) else []
def leastL (x : Fr2) (l : List (Nat × Fr2)) : Fr2 := l.foldl (fun s p => lesserF s p.2) x
/-- for each border the least of its own bound and of all that others let it be -/
def reachF (r f : Int) (is : List Itm) (O : Nat → Fr2) (b : Nat) : Fr2 := leastL (O b) (aheadL r is O b 0 ++ behindL f O (is.drop b) b 0)
theorem plusK_fq {f : Fr2} {k : Int} (q : Fq f.1 f.2) : Fq (plusK f k).1 (plusK f k).2 := ⟨q.pos, by
  show Int.gcd (f.1 + k * f.2) f.2 = 1
  rw [Int.gcd_add_mul_right_left]; exact q.one⟩
end GB
namespace GB
open PySem PySem.Spec PyProof.Rows L2
/-- a machine, a row, a rate -/
structure DrawnB (m4 : Int) (rs : List Int) (a b c d rate : Int) (is : List Itm) : Prop where
  l2 : 2 ≤ rs.length
  l3 : rs.length ≤ 3
  a0 : 1 ≤ a
  a1 : a ≤ 50
  b0 : 1 ≤ b
  b1 : b ≤ 50
  c0 : 1 ≤ c
  c1 : c ≤ 50
  d0 : 1 ≤ d
  d1 : d ≤ m4
  ok : ∀ i ∈ is, OkI rs.length i
  il : is.length ≤ 20
  r1 : 10 ≤ rate
  r2 : rate ≤ 200
abbrev drT (rs : List Int) (a b c d rate : Int) (is : List Itm) : T := .tup [machT rs a b c d, .tup (itL is), .int rate]
def Drawn (t : T) : Prop := ∃ (rs : List Int) (a b c d rate : Int) (is : List Itm), t = drT rs a b c d rate is ∧ DrawnB 100 rs a b c d rate is
theorem q_gEnT {ts : List T} {h : IH} : gEnT (.tup ts) h = some (enumL ts) := rfl
end GB
namespace GB
open PySem PySem.Spec PyProof.Rows L2
mutual
def clT : T → Bool
  | .non => true
  | .bl _ => false
  | .int _ => true
  | .str _ => true
  | .tup ts => clL ts
  | .lst ts => clL ts
  | .box _ => false
def clL : List T → Bool
  | [] => true
  | t :: ts => clT t && clL ts
end
mutual
theorem eqv_cl : ∀ (x y : T) (d e : PyData), clT x = true → clT y = true → py0 x = some d → py0 y = some e → PyData.eqv d e = true → x = y
  | .non, y, d, e, cx, cy, hx, hy, h => by
    cases hx
    cases y with
    | non => rfl
    | bl _ => cases cy
    | int _ => cases hy; rw [PyData.eqv.eq_def] at h; cases h
    | str _ => cases hy; rw [PyData.eqv.eq_def] at h; cases h
    | tup ys => obtain ⟨ds, _, rfl⟩ := Option.map_eq_some_iff.mp (show (pyL ys).map PyData.tuple = some e from hy); rw [PyData.eqv.eq_def] at h; cases h
    | lst ys => obtain ⟨ds, _, rfl⟩ := Option.map_eq_some_iff.mp (show (pyL ys).map PyData.list = some e from hy); rw [PyData.eqv.eq_def] at h; cases h
    | box _ => cases cy
  | .bl _, _, _, _, cx, _, _, _, _ => by cases cx
  | .box _, _, _, _, cx, _, _, _, _ => by cases cx
  | .int i, y, d, e, cx, cy, hx, hy, h => by
    cases hx
    cases y with
    | non => cases hy; rw [PyData.eqv.eq_def] at h; cases h
    | bl _ => cases cy
    | int j => cases hy; rw [PyData.eqv.eq_def] at h; rw [beq_iff_eq.mp h]
    | str _ => cases hy; rw [PyData.eqv.eq_def] at h; cases h
    | tup ys => obtain ⟨ds, _, rfl⟩ := Option.map_eq_some_iff.mp (show (pyL ys).map PyData.tuple = some e from hy); rw [PyData.eqv.eq_def] at h; cases h
    | lst ys => obtain ⟨ds, _, rfl⟩ := Option.map_eq_some_iff.mp (show (pyL ys).map PyData.list = some e from hy); rw [PyData.eqv.eq_def] at h; cases h
    | box _ => cases cy
  | .str s, y, d, e, cx, cy, hx, hy, h => by
    cases hx
    cases y with
    | non => cases hy; rw [PyData.eqv.eq_def] at h; cases h
    | bl _ => cases cy
    | int j => cases hy; rw [PyData.eqv.eq_def] at h; cases h
    | str z => cases hy; rw [PyData.eqv.eq_def] at h; rw [show s = z from LawfulBEq.eq_of_beq h]
    | tup ys => obtain ⟨ds, _, rfl⟩ := Option.map_eq_some_iff.mp (show (pyL ys).map PyData.tuple = some e from hy); rw [PyData.eqv.eq_def] at h; cases h
    | lst ys => obtain ⟨ds, _, rfl⟩ := Option.map_eq_some_iff.mp (show (pyL ys).map PyData.list = some e from hy); rw [PyData.eqv.eq_def] at h; cases h
    | box _ => cases cy
  | .tup xs, y, d, e, cx, cy, hx, hy, h => by
    obtain ⟨ds, hd, rfl⟩ := Option.map_eq_some_iff.mp (show (pyL xs).map PyData.tuple = some d from hx)
    cases y with
    | non => cases hy; rw [PyData.eqv.eq_def] at h; cases h
    | bl _ => cases cy
    | int j => cases hy; rw [PyData.eqv.eq_def] at h; cases h
    | str z => cases hy; rw [PyData.eqv.eq_def] at h; cases h
    | tup ys =>
      obtain ⟨es, he, rfl⟩ := Option.map_eq_some_iff.mp (show (pyL ys).map PyData.tuple = some e from hy)
      rw [PyData.eqv.eq_def] at h
      rw [eqv_clL xs ys ds es cx cy hd he h]
    | lst ys => obtain ⟨es, _, rfl⟩ := Option.map_eq_some_iff.mp (show (pyL ys).map PyData.list = some e from hy); rw [PyData.eqv.eq_def] at h; cases h
    | box _ => cases cy
  | .lst xs, y, d, e, cx, cy, hx, hy, h => by
    obtain ⟨ds, hd, rfl⟩ := Option.map_eq_some_iff.mp (show (pyL xs).map PyData.list = some d from hx)
    cases y with
    | non => cases hy; rw [PyData.eqv.eq_def] at h; cases h
    | bl _ => cases cy
    | int j => cases hy; rw [PyData.eqv.eq_def] at h; cases h
    | str z => cases hy; rw [PyData.eqv.eq_def] at h; cases h
    | tup ys => obtain ⟨es, _, rfl⟩ := Option.map_eq_some_iff.mp (show (pyL ys).map PyData.tuple = some e from hy); rw [PyData.eqv.eq_def] at h; cases h
    | lst ys =>
      obtain ⟨es, he, rfl⟩ := Option.map_eq_some_iff.mp (show (pyL ys).map PyData.list = some e from hy)
      rw [PyData.eqv.eq_def] at h
      rw [eqv_clL xs ys ds es cx cy hd he h]
    | box _ => cases cy
theorem eqv_clL : ∀ (x y : List T) (d e : List PyData), clL x = true → clL y = true → pyL x = some d → pyL y = some e → PyData.eqvAll d e = true → x = y
  | [], y, d, e, cx, cy, hx, hy, h => by
    cases hx
    cases y with
    | nil => rfl
    | cons t ts =>
      have e' : (match py0 t, pyL ts with | some d, some ds => some (d :: ds) | _, _ => none) = some e := hy
      split at e'
      · cases e'; simp [PyData.eqvAll] at h
      · cases e'
  | x :: xs, y, d, e, cx, cy, hx, hy, h => by
    have d' : (match py0 x, pyL xs with | some d, some ds => some (d :: ds) | _, _ => none) = some d := hx
    split at d'
    · rename_i d1 ds h1 h2
      cases d'
      cases y with
      | nil => cases hy; simp [PyData.eqvAll] at h
      | cons t ts =>
        have e' : (match py0 t, pyL ts with | some d, some ds => some (d :: ds) | _, _ => none) = some e := hy
        split at e'
        · rename_i e1 es h3 h4
          cases e'
          rw [PyData.eqvAll, Bool.and_eq_true] at h
          simp only [clL, Bool.and_eq_true] at cx cy
          rw [eqv_cl x t d1 e1 cx.1 cy.1 h1 h3 h.1, eqv_clL xs ts ds es cx.2 cy.2 h2 h4 h.2]
        · cases e'
    · cases d'
end
section
variable {h : IH} {x y : T} {k l : Nat}
theorem pyH_0 (e : shT k x = true) : pyH h x = py0 x := by
  cases x with
  | box n => cases k <;> simp [shT] at e
  | _ => rfl
theorem eq_no {neg : Bool} (hk : k ≤ 64) (hl : l ≤ 64) (ex : shT k x = true) (ey : shT l y = true) (cx : clT x = true) (cy : clT y = true) (n : x ≠ y) : gEqB neg x y h = some (.bl neg) := by
  obtain ⟨d, h1, h2⟩ := sh_shaped (h := h) hk ex
  obtain ⟨e, h3, h4⟩ := sh_shaped (h := h) hl ey
  show (match pyH h x, pyH h y with | some d, some e => if (SeqAt.shaped d && SeqAt.shaped e) = true then some (T.bl (neg ^^ PyData.eqv d e)) else none | _, _ => none) = _
  rw [h1, h3]
  show (if (SeqAt.shaped d && SeqAt.shaped e) = true then some (T.bl (neg ^^ PyData.eqv d e)) else none) = _
  rw [pyH_0 ex] at h1
  rw [pyH_0 ey] at h3
  have : PyData.eqv d e = false := by
    cases q : PyData.eqv d e with
    | false => rfl
    | true => exact absurd (eqv_cl x y d e cx cy h1 h3 q) n
  rw [h2, h4, this]
  simp
end
section
variable {c rate : Int} {A B : List Itm} {o : Itm}
theorem sqAt_own {is : List Itm} {j : Nat} (h : j ≤ is.length) : sqAt (ownsF c rate is) j = ownAt c rate is j := by
  rw [ownsF_at]
  unfold sqAt
  rw [List.getD_eq_getElem?_getD, List.getElem?_map, List.getElem?_range (by omega)]
  rfl
variable {X Y : List Fr2} {r f : Int}
end
end GB
namespace GB
open PySem PySem.Spec PyProof.Rows L2
structure Low (r f : Int) (is : List Itm) (S0 S : List Fr2) : Prop where
  len : S.length = is.length + 1
  fq : ∀ j, j ≤ is.length → Fq (sqAt S j).1 (sqAt S j).2
  nn : ∀ j, j ≤ is.length → 0 ≤ (sqAt S j).1
  qm : ∀ j, j ≤ is.length → (sqAt S j).2 ≤ 10 ^ 14
  le : ∀ j, j ≤ is.length → leF (sqAt S j) (sqAt S0 j)
  low : ∀ j, j ≤ is.length → leF (reachF r f is (sqAt S0) j) (sqAt S j)
section
variable {r f : Int} {is : List Itm} {S0 S : List Fr2}
theorem Low.pos (L : Low r f is S0 S) {j : Nat} (h : j ≤ is.length) : 0 < (sqAt S j).2 := (L.fq j h).pos
theorem Low.ok (L : Low r f is S0 S) (h0 : ∀ j, j ≤ is.length → (sqAt S0 j).1 ≤ 10 ^ 14 ∧ 0 < (sqAt S0 j).2) {j : Nat} (h : j ≤ is.length) : Fok (10 ^ 50) (sqAt S j) ∧ (sqAt S j).1 ≤ 10 ^ 28 := by
  have a := L.le j h
  have n := L.nn j h
  have q := L.qm j h
  have p := L.pos h
  obtain ⟨b1, b2⟩ := h0 j h
  unfold leF at a
  have c1 : (sqAt S j).1 * 1 ≤ (sqAt S j).1 * (sqAt S0 j).2 := Int.mul_le_mul_of_nonneg_left b2 n
  have c2 : (sqAt S0 j).1 * (sqAt S j).2 ≤ 10 ^ 14 * 10 ^ 14 := by
    rcases Int.le_total 0 (sqAt S0 j).1 with z | z
    · exact Int.mul_le_mul b1 q (by omega) (by decide)
    · have := Int.mul_nonpos_of_nonpos_of_nonneg z (by omega : 0 ≤ (sqAt S j).2)
      omega
  exact ⟨⟨L.fq j h, by omega, by omega, by omega⟩, by omega⟩
end
end GB
namespace GB
open PySem PySem.Spec PyProof.Rows L2
def eLRg (f : SE) : SE := fun τ h => (f τ h).bind fun x h1 =>
  match x with
  | .int n => if 0 ≤ n ∧ n ≤ 16777216 then .ok (.lst (rngL 0 n.toNat 1)) h1 else .no
  | _ => .no
section
variable {X : Cx} {E : WX} {en : Ent} {rk kd k1 : Kd} {lin lin1 lin' : List Nat} {o a b c : Expr} {fo fa fb : SE} {pos pos' pos2 apos cpos apos2 cpos2 tpos p p2 : Pos} {i j l : Nat} {x y z : Str}
theorem RpL.eraseIdx {K : PySem.W.Frag} {G : Hp} {R : List Addr} {ts : List T} {vs : List V} (r : RpL K G R ts vs) (n : Nat) : RpL K G R (ts.eraseIdx n) (vs.eraseIdx n) := by
  rw [List.eraseIdx_eq_take_drop_succ, List.eraseIdx_eq_take_drop_succ]
  exact (r.take n).append (r.drop (n + 1))
def sAppPop (i j : Nat) (f : SE) : SS := fun τ h =>
  match τ[i]?, τ[j]? with
  | some (some (.lst ts)), some (some (.lst us)) => (f τ h).fl τ fun k h1 =>
    match k with
    | .int k => match us[k.toNat]? with
      | some t => if (0 ≤ k ∧ k < 4611686018427387904) ∧ ts.length < sizeLine then .nx ((τ.set j (some (.lst (us.eraseIdx k.toNat)))).set i (some (.lst (ts ++ [t])))) h1 else .no
      | none => .no
    | _ => .no
  | _, _ => .no
end
def gRepL : G2 := fun x y h =>
  match asL h x, y with
  | some a, .int k => if (0 ≤ k ∧ k ≤ 1000000) ∧ a.length * k.toNat ≤ sizeLine then some (.lst (List.replicate k.toNat a).flatten) else none
  | _, _ => none
section
variable {K : PySem.W.Frag} {X : Cx}
theorem q_repL {a : List T} {k : Int} {h : IH} : gRepL (.lst a) (.int k) h = if (0 ≤ k ∧ k ≤ 1000000) ∧ a.length * k.toNat ≤ sizeLine then some (.lst (List.replicate k.toNat a).flatten) else none := rfl
end
end GB
namespace GB
open PySem PySem.Spec PyProof.Rows L2
section
variable {f : SE} {τ : Ev} {h : IH} {P1 : T → IH → Prop} {N : Ev → IH → Prop} {M : T → IH → Prop} {i j : Nat}
theorem w_LRg : Ok (eLRg f τ h) P1 = Ok (f τ h) fun x h1 => ∃ n, x = .int n ∧ (0 ≤ n ∧ n ≤ 16777216) ∧ P1 (.lst (rngL 0 n.toNat 1)) h1 := by
  unfold eLRg
  rw [w_bind]
  congr 1; funext x h1
  cases x with
  | int n => simp only [w_iteN, w_ok]; exact propext ⟨fun z => ⟨n, rfl, z⟩, fun ⟨_, e, z⟩ => by cases e; exact z⟩
  | _ => exact propext ⟨fun z => z.out.elim, fun ⟨_, e, _⟩ => nomatch e⟩
theorem v_AppPop : OkS (sAppPop i j f τ h) N M = ∃ ts, τ[i]? = some (some (.lst ts)) ∧ ∃ us, τ[j]? = some (some (.lst us)) ∧ Ok (f τ h) fun k h1 => ∃ k', k = .int k' ∧ ∃ t, us[k'.toNat]? = some t ∧ ((0 ≤ k' ∧ k' < 4611686018427387904) ∧ ts.length < sizeLine) ∧ N ((τ.set j (some (.lst (us.eraseIdx k'.toNat)))).set i (some (.lst (ts ++ [t])))) h1 := by
  unfold sAppPop
  split
  · rename_i ts us e1 e2
    rw [w_fl]
    have key : ∀ (k : T) (h1 : IH), OkS (match k with | .int k => (match us[k.toNat]? with | some t => if (0 ≤ k ∧ k < 4611686018427387904) ∧ ts.length < sizeLine then Fl.nx ((τ.set j (some (.lst (us.eraseIdx k.toNat)))).set i (some (.lst (ts ++ [t])))) h1 else .no | none => .no) | _ => .no) N M = ∃ k', k = .int k' ∧ ∃ t, us[k'.toNat]? = some t ∧ ((0 ≤ k' ∧ k' < 4611686018427387904) ∧ ts.length < sizeLine) ∧ N ((τ.set j (some (.lst (us.eraseIdx k'.toNat)))).set i (some (.lst (ts ++ [t])))) h1 := fun k h1 => by
      cases k with
      | int k =>
        cases e : us[k.toNat]? with
        | none => simp only [e]; exact propext ⟨fun z => z.out.elim, fun ⟨k', ek, t, et, _⟩ => by cases ek; rw [e] at et; cases et⟩
        | some t => simp only [e, v_iteN, v_nx]; exact propext ⟨fun z => ⟨k, rfl, t, e, z⟩, fun ⟨k', ek, t', et, z⟩ => by cases ek; rw [e] at et; cases et; exact z⟩
      | _ => exact propext ⟨fun z => z.out.elim, fun ⟨_, e, _⟩ => nomatch e⟩
    refine propext ⟨fun z => ⟨ts, e1, us, e2, z.imp fun k h1 q => Eq.mp (key k h1) q⟩, fun ⟨ts', a1, us', a2, z⟩ => ?_⟩
    have b1 := e1.symm.trans a1
    have b2 := e2.symm.trans a2
    cases b1; cases b2
    exact z.imp fun k h1 q => Eq.mpr (key k h1) q
  · rename_i e
    exact propext ⟨fun z => z.out.elim, fun ⟨ts, a1, us, a2, _⟩ => (e ts us a1 a2).elim⟩
end
end GB
namespace GB
open PySem PySem.Spec PyProof.Rows L2
theorem ne_of_eq {x y : T} {h : IH} {b : Bool} (e : gEq x y h = some (.bl b)) : gNe x y h = some (.bl (!b)) := by
  unfold gEq gEqB at e
  unfold gNe gEqB
  cases h1 : pyH h x with
  | none => rw [h1] at e; cases e
  | some d =>
    cases h2 : pyH h y with
    | none => rw [h1, h2] at e; cases e
    | some d' =>
      rw [h1, h2] at e
      simp only [] at e ⊢
      split at e
      · rename_i sh
        rw [if_pos sh]
        injection e with e
        injection e with e
        rw [← e]
        cases PyData.eqv d d' <;> rfl
      · cases e
end GB
namespace GB
open PySem PySem.Spec PyProof.Rows L2
section
variable {u l x j m : Int}
theorem near_nn (h : 0 < l) (hu : 0 ≤ u) : near u l = (2 * u + l) / (2 * l) := by
  unfold near
  rw [if_neg (by omega), show (u.natAbs : Int) = u by omega]
theorem near_neg (h : 0 < l) : near (-u) l = -near u l := by
  rcases Int.lt_trichotomy u 0 with q | q | q
  · unfold near
    rw [if_neg (by omega), if_pos q, show (-u).natAbs = u.natAbs by omega]; omega
  · subst q
    rw [show (-(0 : Int)) = 0 by omega, near_zero h]; rfl
  · unfold near
    rw [if_pos (by omega), if_neg (by omega), show (-u).natAbs = u.natAbs by omega]
theorem near_shift_nn (h : 0 < l) (hj : 0 ≤ j) (hx : 0 ≤ x) : near ((l + j) * x) l = x + near (j * x) l := by
  have a : 0 ≤ j * x := Int.mul_nonneg hj hx
  have b : 0 ≤ (l + j) * x := Int.mul_nonneg (by omega) hx
  rw [near_nn h b, near_nn h a]
  rw [show 2 * ((l + j) * x) + l = (2 * (j * x) + l) + 2 * l * x by rw [Int.add_mul, Int.mul_add, Int.mul_assoc]; omega, Int.add_mul_ediv_left _ _ (by omega)]
  omega
theorem near_shift (h : 0 < l) (hj : 0 ≤ j) : near ((l + j) * x) l = x + near (j * x) l := by
  rcases Int.le_total 0 x with q | q
  · exact near_shift_nn h hj q
  · have := near_shift_nn (x := -x) h hj (by omega)
    rw [Int.mul_neg, Int.mul_neg, near_neg h, near_neg h] at this
    omega
end
/-- where the axes stand behind k steps -/
def stL (xs : List Int) (k : Int) : List Int := xs.map fun x => near (k * x) (lead xs)
/-- step k + 1 -/
def rwL (xs : List Int) (k : Int) : List Int := xs.map fun x => near ((k + 1) * x) (lead xs) - near (k * x) (lead xs)
def rwT (xs : List Int) : List T := (List.range (lead xs).toNat).map fun (k : Nat) => T.tup ((rwL xs (k : Int)).map T.int)
theorem stL_len {xs : List Int} {k : Int} : (stL xs k).length = xs.length := by unfold stL; simp
theorem rwL_len {xs : List Int} {k : Int} : (rwL xs k).length = xs.length := by unfold rwL; simp
theorem rwT_len {xs : List Int} : (rwT xs).length = (lead xs).toNat := by unfold rwT; simp
end GB
namespace GB
open PySem PySem.Spec PyProof.Rows L2
/-- f is p over q -/
structure Val (f : Fr2) (p q : Int) : Prop where
  fq : Fq f.1 f.2
  pos : 0 < q
  eq : f.1 * q = p * f.2
/-- the same number, the same fraction -/
theorem Val.same {f g : Fr2} {p q r s : Int} (a : Val f p q) (b : Val g r s) (e : p * s = r * q) : f = g := by
  have h : f.1 * g.2 = g.1 * f.2 := by
    have h1 : (f.1 * g.2) * (q * s) = (g.1 * f.2) * (q * s) := by
      have := a.eq
      have := b.eq
      grind
    exact Int.eq_of_mul_eq_mul_right (Int.ne_of_gt (Int.mul_pos a.pos b.pos)) h1
  exact leF_antisymm a.fq b.fq (Int.le_of_eq h) (Int.le_of_eq h.symm)
def timesF (f g : Fr2) : Fr2 := lowF (f.1 * g.1) (f.2 * g.2)
section
variable {f g : Fr2} {p q r s : Int}
/-- less, by any numbers -/
theorem Val.lt (a : Val f p q) (b : Val g r s) : (f.1 * g.2 < g.1 * f.2) ↔ (p * s < r * q) := by
  have k1 := Int.mul_pos a.pos b.pos
  have k2 := Int.mul_pos a.fq.pos b.fq.pos
  have h1 : (f.1 * g.2) * (q * s) = (p * s) * (f.2 * g.2) := by
    have := a.eq
    grind
  have h2 : (g.1 * f.2) * (q * s) = (r * q) * (f.2 * g.2) := by
    have := b.eq
    grind
  constructor
  · intro z
    have : (f.1 * g.2) * (q * s) < (g.1 * f.2) * (q * s) := Int.mul_lt_mul_of_pos_right z k1
    rw [h1, h2] at this
    exact Int.lt_of_mul_lt_mul_right this (Int.le_of_lt k2)
  · intro z
    have : (p * s) * (f.2 * g.2) < (r * q) * (f.2 * g.2) := Int.mul_lt_mul_of_pos_right z k2
    rw [← h1, ← h2] at this
    exact Int.lt_of_mul_lt_mul_right this (Int.le_of_lt k1)
end
end GB
namespace GB
open PySem PySem.Spec PyProof.Rows L2
/-- a square as it stands in a tape: above nought, its numbers bounded -/
structure Sq (f : Fr2) : Prop where
  fq : Fq f.1 f.2
  pos : 1 ≤ f.1
  hi : f.1 ≤ 10 ^ 31
  qm : f.2 ≤ 10 ^ 30
theorem Sq.ok {f : Fr2} (k : Sq f) : Fok (10 ^ 50) f := ⟨k.fq, by have := k.pos; omega, by have := k.hi; omega, by have := k.qm; omega⟩
def IsTick (d : Int) (q : Fr2) (t : Int) : Prop := 1 ≤ t ∧ d * d * q.2 ≤ t * t * q.1 ∧ (1 < t → (t - 1) * (t - 1) * q.1 < d * d * q.2)
/-- the ticks of a step -/
noncomputable def tickF (d : Int) (q : Fr2) : Int := Classical.epsilon (IsTick d q)
noncomputable def stepT (d : Int) (row : List Int) (q : Fr2) : T := .tup [.str "step", .tup (row.map T.int), .int (tickF d q), frt q]
/-- a place on the rails -/
def OnR (rs ps : List Int) : Prop := All2 (fun r p => 0 ≤ p ∧ p ≤ r) rs ps
/-- the axes led so far, and those to come -/
theorem onr_get {rs ps : List Int} {i : Nat} (o : OnR rs ps) (h : i < ps.length) : ∃ r p, rs[i]? = some r ∧ ps[i]? = some p ∧ 0 ≤ p ∧ p ≤ r := by
  have : ∀ (i : Nat) (rs ps : List Int), All2 (fun r p => 0 ≤ p ∧ p ≤ r) rs ps → i < ps.length → ∃ r p, rs[i]? = some r ∧ ps[i]? = some p ∧ 0 ≤ p ∧ p ≤ r := fun i => by
    induction i with
    | zero =>
      intro rs ps o h
      cases o with
      | nil => exact absurd h (by decide)
      | cons q _ => exact ⟨_, _, rfl, rfl, q.1, q.2⟩
    | succ i ih =>
      intro rs ps o h
      cases o with
      | nil => exact absurd h (by simp)
      | cons q o =>
        obtain ⟨r, p, e1, e2, e3⟩ := ih _ _ o (by simpa using h)
        exact ⟨r, p, by simpa using e1, by simpa using e2, e3⟩
  exact this i rs ps o h
theorem onr_of {rs ps : List Int} (hl : rs.length = ps.length) (h : ∀ (i : Nat) (r p : Int), rs[i]? = some r → ps[i]? = some p → 0 ≤ p ∧ p ≤ r) : OnR rs ps := by
  have : ∀ (rs ps : List Int), rs.length = ps.length → (∀ (i : Nat) (r p : Int), rs[i]? = some r → ps[i]? = some p → 0 ≤ p ∧ p ≤ r) → All2 (fun r p => 0 ≤ p ∧ p ≤ r) rs ps := fun rs => by
    induction rs with
    | nil => intro ps hl _; cases ps with | nil => exact .nil | cons _ _ => cases hl
    | cons r rs ih =>
      intro ps hl h
      cases ps with
      | nil => cases hl
      | cons p ps => exact .cons (h 0 r p rfl rfl) (ih ps (by simpa using hl) fun i r p e1 e2 => h (i + 1) r p (by simpa using e1) (by simpa using e2))
  exact this rs ps hl h
/-- steps that stay on the rails -/
def StepsOk (rs ps xs : List Int) : Prop := ∀ (i : Nat) (r p x : Int), rs[i]? = some r → ps[i]? = some p → xs[i]? = some x → 0 ≤ p + x ∧ p + x ≤ r
end GB
namespace GB
open PySem PySem.Spec PyProof.Rows L2
def iZE (f g : SE) : SI := fun τ h => (f τ h).bind fun x h1 => (g τ h1).bind fun y h2 =>
  match x, y with
  | .lst xs, .lst ys => .ok (zipT xs ys) h2
  | .tup xs, .tup ys => .ok (zipT xs ys) h2
  | _, _ => .no
section
variable {τ : Ev} {h : IH} {f g : SE} {PL : List T → IH → Prop}
theorem w_iZE : Ok (iZE f g τ h) PL = Ok (f τ h) fun x h1 => Ok (g τ h1) fun y h2 => ∃ xs ys, ((x = .lst xs ∧ y = .lst ys) ∨ (x = .tup xs ∧ y = .tup ys)) ∧ PL (zipT xs ys) h2 := by
  simp only [ok_eq]
  unfold iZE; simp only [d_w_bind]; congr 1; funext x h1; congr 1; funext y h2
  split
  · rename_i xs ys
    exact propext ⟨fun z => ⟨xs, ys, .inl ⟨rfl, rfl⟩, z⟩, fun ⟨_, _, z, p⟩ => by
      rcases z with ⟨z, z'⟩ | ⟨z, z'⟩
      · cases z; cases z'; exact p
      · cases z⟩
  · rename_i xs ys
    exact propext ⟨fun z => ⟨xs, ys, .inr ⟨rfl, rfl⟩, z⟩, fun ⟨_, _, z, p⟩ => by
      rcases z with ⟨z, z'⟩ | ⟨z, z'⟩
      · cases z
      · cases z; cases z'; exact p⟩
  · rename_i e1 e2
    exact propext ⟨fun z => z.elim, fun ⟨xs, ys, z, p⟩ => by
      rcases z with ⟨z, z'⟩ | ⟨z, z'⟩
      · exact (e1 xs ys z z').elim
      · exact (e2 xs ys z z').elim⟩
end
theorem eq_str {z : Str} {h : IH} (e : PyData.strOk z = true) : gEq (.str z) (.str z) h = some (.bl true) := q_eqR (k := 0) (by decide) e
end GB
namespace GB
open PySem PySem.Spec PyProof.Rows L2
def addL (ps xs : List Int) : List Int := (ps.zip xs).map fun p => p.1 + p.2
def ledI (ps : List Int) : Itm → List Int
  | .line xs _ => addL ps xs
  | _ => ps
def endP (ps : List Int) (is : List Itm) : List Int := is.foldl ledI ps
theorem endP_snoc {i : Itm} {is : List Itm} {ps : List Int} : endP ps (is ++ [i]) = ledI (endP ps is) i := by
  unfold endP
  rw [List.foldl_append]; rfl
theorem onr_addL {rs ps xs : List Int} (o : OnR rs ps) (lx : xs.length = ps.length) (so : StepsOk rs ps xs) : OnR rs (addL ps xs) := by
  have lps := o.len
  unfold addL
  refine onr_of (by rw [List.length_map, List.length_zip]; omega) fun i r q e1 e2 => ?_
  rw [List.getElem?_map] at e2
  obtain ⟨p, ep, rfl⟩ := Option.map_eq_some_iff.mp e2
  obtain ⟨h1, h2⟩ := List.getElem?_zip_eq_some.mp ep
  exact so i r p.1 p.2 e1 h1 h2
abbrev tupI (xs : List Int) : T := .tup (xs.map T.int)
end GB
namespace GB
open PySem PySem.Spec PyProof.Rows L2
def tmT : Nat → T → Bool
  | _, .non => true
  | _, .bl _ => true
  | _, .int _ => true
  | _, .str s => PyData.strOk s && decide (s.length ≤ 1000)
  | 0, .tup _ => false
  | k + 1, .tup ts => decide (ts.length ≤ 1000) && ts.all (tmT k)
  | 0, .lst _ => false
  | k + 1, .lst ts => decide (ts.length ≤ 1000) && ts.all (tmT k)
  | _, .box _ => false
section
variable {k : Nat} {t u : T} {ts us : List T} {h : IH} {i lo hi : Int}
theorem tm_int : tmT k (.int i) = true := by cases k <;> rfl
theorem tm_non : tmT k .non = true := by cases k <;> rfl
theorem tm_tup : tmT (k + 1) (.tup ts) = true ↔ ts.length ≤ 1000 ∧ ∀ t ∈ ts, tmT k t = true := by
  simp only [tmT, Bool.and_eq_true, decide_eq_true_eq, List.all_eq_true]
theorem tm_lst : tmT (k + 1) (.lst ts) = true ↔ ts.length ≤ 1000 ∧ ∀ t ∈ ts, tmT k t = true := by
  simp only [tmT, Bool.and_eq_true, decide_eq_true_eq, List.all_eq_true]
theorem tm_str {s : Str} : tmT k (.str s) = true ↔ PyData.strOk s = true ∧ s.length ≤ 1000 := by
  cases k <;> simp only [tmT, Bool.and_eq_true, decide_eq_true_eq]
theorem tm_sh : ∀ {k : Nat} {t : T}, tmT k t = true → shT k t = true
  | k, .non, _ => by cases k <;> rfl
  | k, .bl _, _ => by cases k <;> rfl
  | k, .int _, _ => by cases k <;> rfl
  | k, .str s, e => by
    have := (tm_str.mp e).1
    cases k <;> exact this
  | 0, .tup ts, e => by cases e
  | k + 1, .tup ts, e => by
    simp only [shT]
    exact shL_all fun t m => tm_sh ((tm_tup.mp e).2 t m)
  | 0, .lst ts, e => by cases e
  | k + 1, .lst ts, e => by
    simp only [shT]
    exact shL_all fun t m => tm_sh ((tm_lst.mp e).2 t m)
  | 0, .box _, e => by cases e
  | k + 1, .box _, e => by cases e
/-- whether a tree is a whole number, within bounds -/
def whB : T → Bool
  | .int _ => true
  | _ => false
def wiB (lo hi : Int) : T → Bool
  | .int a => decide (lo ≤ a ∧ a ≤ hi)
  | _ => false
def plB (rs : List Int) : T → Bool
  | .tup ts => decide (ts.length = rs.length) && ((ts.zip rs).map fun p => wiB 0 p.2 p.1).all id
  | _ => false
def isTup : T → Bool
  | .tup _ => true
  | _ => false
def isStr : T → Bool
  | .str _ => true
  | _ => false
theorem isi_tup (e : tmT k t = true) : gIsi ["tuple"] t h = some (.bl (isTup t)) := by
  cases t with
  | box n => cases k <;> cases e
  | _ => rfl
theorem isi_str (e : tmT k t = true) : gIsi ["str"] t h = some (.bl (isStr t)) := by
  cases t with
  | box n => cases k <;> cases e
  | _ => rfl
end
theorem all_map {ts : List T} {g : T → Bool} : (ts.map g).all id = ts.all g := by induction ts with
  | nil => rfl
  | cons t ts ih => rw [List.map_cons, List.all_cons, List.all_cons, ih]; rfl
end GB
namespace GB
open PySem PySem.Spec PyProof.Rows L2
def gLeS : G2
  | .str a, .str b, _ => some (.bl (!decide (b.cps.toList < a.cps.toList)))
  | _, _, _ => none
theorem o2_leS {K : PySem.W.Frag} : Op2 K (fun x y H Q => ∃ i j, x = .str i ∧ y = .str j ∧ Q (.bl (!decide (j.cps.toList < i.cps.toList))) H) gLeS .fz := by
  intro G R H h x y vx vy z Q g lx ly e k
  unfold gLeS at e
  split at e
  · cases e
    exact ⟨_, _, lx.str, ly.str, k _ G R H g .refl (.bl _)⟩
  · cases e
abbrev EF : WX := fun _ _ _ _ => False
def tCs : List V → TA
  | [] => tNil
  | v :: vs => tCons (tC v) (tCs vs)
section
variable {X : Cx} {a D C : Addr} {oe : Obj} {pn : List (Addr × Obj)} {i j : Nat} {lin : List Nat} {n m : Str} {p p1 p2 pos : Pos} {es : List Expr} {vs : List V} {b : Bool} {us : List Value}
theorem pacs_nil : PA X [] (tCs []) := pa_nil
theorem pacs_cons (g : X.mg m = some (.ref C)) (hg : Gl X m) (h2 : PA X es (tCs vs)) (hd : (m == ("__debug__" : Str)) = false := by decide) (hs : starEach (.Name m p :: es) X.env = (false, eval (.Name m p) X.env) :: starEach es X.env := by rfl) : PA X (.Name m p :: es) (tCs (.ref C :: vs)) :=
  pa_cons (pe_glob hg g rfl hd) h2 hs
theorem tCs_go {σ : L2.St} {H : Hp} {Q : List V → Hp → Prop} : ∀ {vs : List V} {P : List V → Hp → Prop}, P vs H → (∀ ws H', P ws H' → Q ws H') → tCs vs σ H Q
  | [], P, h, k => k _ _ h
  | v :: vs, P, h, k => tCs_go (vs := vs) (P := fun ws H' => P (v :: ws) H') h fun ws H' q => k _ _ q
/-- classes' values -/
inductive ClsL : List V → List Value → Prop
  | nil : ClsL [] []
  | cons {C : Addr} {vs us} : ClsL vs us → ClsL (.ref C :: vs) (.ref C :: us)
theorem ClsL.all : ∀ {vs : List V} {us ws : List Value}, ClsL vs us → Vals vs ws → ws = us
  | _, _, _, .nil, .nil => rfl
  | _, _, _, .cons k, .cons r rr => by
    cases r
    rw [ClsL.all k rr]
end
theorem fr_set0 {K : PySem.W.Frag} {G : Hp} {R : List Addr} {H : Hp} {τ : Ev} {σ : L2.St} {N0 : Addr → Prop} {i : Nat} {o : Option V} (f : Fr K [] G R H τ σ N0) : Fr K [] G R H (τ.set i none) (σ.set i o) N0 where
  slot := fun j t e n => by
    by_cases q : j = i
    · subst q
      by_cases hj : j < τ.length
      · rw [List.getElem?_set_self hj] at e; cases e
      · rw [List.getElem?_eq_none (by rw [List.length_set]; omega)] at e; cases e
    · rw [List.getElem?_set_ne (Ne.symm q)] at e
      obtain ⟨v, h1, h2⟩ := f.slot j t e n
      exact ⟨v, by rw [List.getElem?_set_ne (Ne.symm q)]; exact h1, h2⟩
  own := fun j t e m => by cases m
  apart := fun i j t u a _ _ m => by cases m
  len := by rw [List.length_set, List.length_set]; exact f.len
section
variable {K : PySem.W.Frag} {C D : Addr} {b : Bool} {c : Value} {r : List Value}
theorem kit_refL (hd : PySem.W.hasDictIn K C = true) (ht : PySem.W.typeIn K (.ref C) = some (.type "type")) (h : PySem.W.subIn K (.ref D) (.ref C) = some b) (hD : PySem.W.subIn K (.ref D) (.ref D) = some true) : PySem.W.kitOne K (.ref D) (.ref C) = some b := by
  obtain ⟨cd, hc, _⟩ := PySem.W.any_some hd
  unfold PySem.W.kitOne
  split
  · rename_i e
    have e : D = C := Value.ref.inj (beq_iff_eq.mp e)
    subst e
    rw [hD] at h
    exact h
  · show (if ((PySem.W.clsIn K C).isSome && PySem.W.typeIn K (.ref C) == some (.type "type")) = true then PySem.W.subIn K (.ref D) (.ref C) else none) = some b
    rw [if_pos (by rw [hc, ht]; rfl)]
    exact h
theorem kit_typL {T : String} (hm : PySem.W.kitMeta T = true) (h : PySem.W.subIn K (.ref D) (.type T) = some b) : PySem.W.kitOne K (.ref D) (.type T) = some b := by
  unfold PySem.W.kitOne
  rw [if_neg (by intro z; cases beq_iff_eq.mp z)]
  show (if PySem.W.kitMeta T = true then PySem.W.subIn K (.ref D) (.type T) else none) = some b
  rw [if_pos hm]
  exact h
theorem kita_nil : PySem.W.kitAny K (.ref D) [] = some false := rfl
theorem kita_f (h : PySem.W.kitOne K (.ref D) c = some false) (h2 : PySem.W.kitAny K (.ref D) r = some b) : PySem.W.kitAny K (.ref D) (c :: r) = some b := by
  unfold PySem.W.kitAny
  rw [h]
  exact h2
end
end GB
namespace GB
open PySem PySem.W PySem.Calls PyProof.Rows
theorem two_maps {α β γ : Type} {o : Option α} {f : α → β} {g : α → γ} {b : β} {c : γ} (h1 : o.map f = some b) (h2 : o.map g = some c) : o.map (fun s => (f s, g s)) = some (b, c) := by
  cases o with
  | none => cases h1
  | some a =>
    have e1 : f a = b := Option.some.inj h1
    have e2 : g a = c := Option.some.inj h2
    show some (f a, g a) = _
    rw [e1, e2]
/-- the looks behind the top, by themselves -/
def LooksEq (r : OpenRow) (q : Program) (M : Nat) (loose : List PySem.Str) : Prop := ∀ (w : World) (os : OsState), (HandSHeadRun.endF (HandSHeadRun.stepQ (HandSHeadRun.denQ HandSHeadRun.tabQ) r.prog w) M r.prog w os).map (fun s => (HandSHeadRun.looksF r.prog (boot_heap w.params) s.abs, HandSHeadRun.seenQ q loose (importedModules r.prog.main.body) (fun s => xlAt q [] s && recOk r.toRowW.records s) s.abs)) = some (true, openGood q loose)
theorem head_k {r : OpenRow} {q : Program} {H : Hook} {K : Params → Frag} {as : List Addr} {e : ∀ P, as = (K P).map (·.1)} {M : Nat} {loose : List PySem.Str} {d : DefRec} {kwd : List (PySem.Str × PySem.Expr)}
    (hH : H = kHook K as e) (looks : LooksEq r q M loose)
    (e1 : opening r.prog = plainProg r.prog.main.scope.names) (f : ∀ s, fenceModules? r.prog s = some s)
    (run : ∀ (w : World) (os : OsState), (HandSHeadRun.endF (HandSHeadRun.stepQ (HandSHeadRun.denQ HandSHeadRun.tabQ) r.prog w) M r.prog w os).map (fun s => as.map (HandSHeadRun.getT s)) = some ((K w.params).map fun x => some x.2))
    (hdef : defOf q r.name = some (d, kwd)) (hp : r.prog.theDef r.name = some (d.params, d.body, d.scope)) (hk : kwWritten? d.params.kwonlyargs d.params.kw_defaults = some kwd)
    (hwr : (!r.writes || r.records.isEmpty) = true) (k1 : r.wellSaid = true) (ok : (chainsOk q && opensWell r.prog && (frees r.toRowW && r.within.isEmpty)) = true) (hb : r.prog.bare) (hw : r.toRowW.promised)
    (call : WalkO q loose (XL q []) H.says r.toRowW d kwd fun f vs => PySem.call f vs) : r.Holds := by
  subst hH
  refine HandSHeadRun.head_any (r := r) (q := q) (H := kHook K as e) (ob := fun s => as.map (HandSHeadRun.getT s)) (M := M) (loose := loose) (d := d) (kwd := kwd) (fun s => ?_) e1 f (fun w os => ?_) hdef hp hk hwr k1 ok hb hw call
  · have q1 : HandSHeadRun.getT s = s.abs.heap.get? := funext fun a => HandSHeadRun.getT_eq s a
    rw [q1]
    rfl
  · have z := two_maps (looks w os) (run w os)
    cases hq : HandSHeadRun.endF (HandSHeadRun.stepQ (HandSHeadRun.denQ HandSHeadRun.tabQ) r.prog w) M r.prog w os with
    | none => rw [hq] at z; cases z
    | some s =>
      rw [hq] at z
      have z2 := Option.some.inj z
      obtain ⟨z3, z4⟩ := Prod.mk.inj z2
      obtain ⟨z5, z6⟩ := Prod.mk.inj z3
      show some _ = some _
      exact congrArg some (Prod.ext z5 (Prod.ext z6 z4))
end GB
namespace Lw
open PySem PySem.Spec PyProof.Rows L2 GB
def topS (i : Nat) : Stmt := PySem.Challenge.pw_glidequeue_k54_texts_of_no_items.main.body.getD i (.Pass ⟨0, 0, 0, 0⟩)
/-- what is told of the law from what the head leaves -/
def AMK (S : PySem.W.Frag → Sp) : Prop := ∀ {w : World} {K : PySem.W.Frag} {h : Heap} {mg : Str → Option Value} {fa : Addr} (_ : K.In h) (_ : h.Ns mainGlobals mg) (_ : mg "law" = some (.ref fa))
    {f0 : Addr} {od0 an0 : Option Addr} {sl0 : Array (Option Value)} {oc0 kV0 dc0 pm0 cd0 ct0 : Value} (a0 : PySem.W.nsIn K mainGlobals "_law_bag" = some (some (.ref f0))) (l0 : K.lookup f0 = some ⟨oc0, od0, .func (PySem.W.fnOf "_law_bag" "_law_bag" (defArgs (topS 37)) (defBody (topS 37)) (defScope (topS 37)) .none kV0 dc0 pm0 an0 cd0 ct0), sl0⟩) (c0 : PySem.W.codeIn K cd0 "_law_bag" = true) (k0 : PySem.W.keepIn K (.ref f0) = true)
    {f1 : Addr} {od1 an1 : Option Addr} {sl1 : Array (Option Value)} {oc1 kV1 dc1 pm1 cd1 ct1 : Value} (a1 : PySem.W.nsIn K mainGlobals "_law_take" = some (some (.ref f1))) (l1 : K.lookup f1 = some ⟨oc1, od1, .func (PySem.W.fnOf "_law_take" "_law_take" (defArgs (topS 38)) (defBody (topS 38)) (defScope (topS 38)) .none kV1 dc1 pm1 an1 cd1 ct1), sl1⟩) (c1 : PySem.W.codeIn K cd1 "_law_take" = true) (k1 : PySem.W.keepIn K (.ref f1) = true)
    {f2 : Addr} {od2 an2 : Option Addr} {sl2 : Array (Option Value)} {oc2 kV2 dc2 pm2 cd2 ct2 : Value} (a2 : PySem.W.nsIn K mainGlobals "_law_machine" = some (some (.ref f2))) (l2 : K.lookup f2 = some ⟨oc2, od2, .func (PySem.W.fnOf "_law_machine" "_law_machine" (defArgs (topS 40)) (defBody (topS 40)) (defScope (topS 40)) .none kV2 dc2 pm2 an2 cd2 ct2), sl2⟩) (c2 : PySem.W.codeIn K cd2 "_law_machine" = true) (k2 : PySem.W.keepIn K (.ref f2) = true)
    {f3 : Addr} {od3 an3 : Option Addr} {sl3 : Array (Option Value)} {oc3 kV3 dc3 pm3 cd3 ct3 : Value} (a3 : PySem.W.nsIn K mainGlobals "_law_word" = some (some (.ref f3))) (l3 : K.lookup f3 = some ⟨oc3, od3, .func (PySem.W.fnOf "_law_word" "_law_word" (defArgs (topS 50)) (defBody (topS 50)) (defScope (topS 50)) .none kV3 dc3 pm3 an3 cd3 ct3), sl3⟩) (c3 : PySem.W.codeIn K cd3 "_law_word" = true) (k3 : PySem.W.keepIn K (.ref f3) = true)
    {f4 : Addr} {od4 an4 : Option Addr} {sl4 : Array (Option Value)} {oc4 kV4 dc4 pm4 cd4 ct4 : Value} (a4 : PySem.W.nsIn K mainGlobals "_law_words_put" = some (some (.ref f4))) (l4 : K.lookup f4 = some ⟨oc4, od4, .func (PySem.W.fnOf "_law_words_put" "_law_words_put" (defArgs (topS 51)) (defBody (topS 51)) (defScope (topS 51)) .none kV4 dc4 pm4 an4 cd4 ct4), sl4⟩) (c4 : PySem.W.codeIn K cd4 "_law_words_put" = true) (k4 : PySem.W.keepIn K (.ref f4) = true)
    {f5 : Addr} {od5 an5 : Option Addr} {sl5 : Array (Option Value)} {oc5 kV5 dc5 pm5 cd5 ct5 : Value} (a5 : PySem.W.nsIn K mainGlobals "_law_sign" = some (some (.ref f5))) (l5 : K.lookup f5 = some ⟨oc5, od5, .func (PySem.W.fnOf "_law_sign" "_law_sign" (defArgs (topS 45)) (defBody (topS 45)) (defScope (topS 45)) .none kV5 dc5 pm5 an5 cd5 ct5), sl5⟩) (c5 : PySem.W.codeIn K cd5 "_law_sign" = true) (k5 : PySem.W.keepIn K (.ref f5) = true)
    {f6 : Addr} {od6 an6 : Option Addr} {sl6 : Array (Option Value)} {oc6 kV6 dc6 pm6 cd6 ct6 : Value} (a6 : PySem.W.nsIn K mainGlobals "_law_signs_put" = some (some (.ref f6))) (l6 : K.lookup f6 = some ⟨oc6, od6, .func (PySem.W.fnOf "_law_signs_put" "_law_signs_put" (defArgs (topS 52)) (defBody (topS 52)) (defScope (topS 52)) .none kV6 dc6 pm6 an6 cd6 ct6), sl6⟩) (c6 : PySem.W.codeIn K cd6 "_law_signs_put" = true) (k6 : PySem.W.keepIn K (.ref f6) = true)
    {f7 : Addr} {od7 an7 : Option Addr} {sl7 : Array (Option Value)} {oc7 kV7 dc7 pm7 cd7 ct7 : Value} (a7 : PySem.W.nsIn K mainGlobals "_law_item_text" = some (some (.ref f7))) (l7 : K.lookup f7 = some ⟨oc7, od7, .func (PySem.W.fnOf "_law_item_text" "_law_item_text" (defArgs (topS 43)) (defBody (topS 43)) (defScope (topS 43)) .none kV7 dc7 pm7 an7 cd7 ct7), sl7⟩) (c7 : PySem.W.codeIn K cd7 "_law_item_text" = true) (k7 : PySem.W.keepIn K (.ref f7) = true)
    {f8 : Addr} {od8 an8 : Option Addr} {sl8 : Array (Option Value)} {oc8 kV8 dc8 pm8 cd8 ct8 : Value} (a8 : PySem.W.nsIn K mainGlobals "_law_name" = some (some (.ref f8))) (l8 : K.lookup f8 = some ⟨oc8, od8, .func (PySem.W.fnOf "_law_name" "_law_name" (defArgs (topS 41)) (defBody (topS 41)) (defScope (topS 41)) .none kV8 dc8 pm8 an8 cd8 ct8), sl8⟩) (c8 : PySem.W.codeIn K cd8 "_law_name" = true) (k8 : PySem.W.keepIn K (.ref f8) = true)
    {f9 : Addr} {od9 an9 : Option Addr} {sl9 : Array (Option Value)} {oc9 kV9 dc9 pm9 cd9 ct9 : Value} (a9 : PySem.W.nsIn K mainGlobals "_law_item" = some (some (.ref f9))) (l9 : K.lookup f9 = some ⟨oc9, od9, .func (PySem.W.fnOf "_law_item" "_law_item" (defArgs (topS 42)) (defBody (topS 42)) (defScope (topS 42)) .none kV9 dc9 pm9 an9 cd9 ct9), sl9⟩) (c9 : PySem.W.codeIn K cd9 "_law_item" = true) (k9 : PySem.W.keepIn K (.ref f9) = true)
    {f10 : Addr} {od10 an10 : Option Addr} {sl10 : Array (Option Value)} {oc10 kV10 dc10 pm10 cd10 ct10 : Value} (a10 : PySem.W.nsIn K mainGlobals "_law_text" = some (some (.ref f10))) (l10 : K.lookup f10 = some ⟨oc10, od10, .func (PySem.W.fnOf "_law_text" "_law_text" (defArgs (topS 53)) (defBody (topS 53)) (defScope (topS 53)) .none kV10 dc10 pm10 an10 cd10 ct10), sl10⟩) (c10 : PySem.W.codeIn K cd10 "_law_text" = true) (k10 : PySem.W.keepIn K (.ref f10) = true)
    {f11 : Addr} {od11 an11 : Option Addr} {sl11 : Array (Option Value)} {oc11 kV11 dc11 pm11 cd11 ct11 : Value} (a11 : PySem.W.nsIn K mainGlobals "_law_number_read" = some (some (.ref f11))) (l11 : K.lookup f11 = some ⟨oc11, od11, .func (PySem.W.fnOf "_law_number_read" "_law_number_read" (defArgs (topS 46)) (defBody (topS 46)) (defScope (topS 46)) .none kV11 dc11 pm11 an11 cd11 ct11), sl11⟩) (c11 : PySem.W.codeIn K cd11 "_law_number_read" = true) (k11 : PySem.W.keepIn K (.ref f11) = true)
    {f12 : Addr} {od12 an12 : Option Addr} {sl12 : Array (Option Value)} {oc12 kV12 dc12 pm12 cd12 ct12 : Value} (a12 : PySem.W.nsIn K mainGlobals "_law_line_read" = some (some (.ref f12))) (l12 : K.lookup f12 = some ⟨oc12, od12, .func (PySem.W.fnOf "_law_line_read" "_law_line_read" (defArgs (topS 47)) (defBody (topS 47)) (defScope (topS 47)) .none kV12 dc12 pm12 an12 cd12 ct12), sl12⟩) (c12 : PySem.W.codeIn K cd12 "_law_line_read" = true) (k12 : PySem.W.keepIn K (.ref f12) = true)
    {f13 : Addr} {od13 an13 : Option Addr} {sl13 : Array (Option Value)} {oc13 kV13 dc13 pm13 cd13 ct13 : Value} (a13 : PySem.W.nsIn K mainGlobals "_law_item_read" = some (some (.ref f13))) (l13 : K.lookup f13 = some ⟨oc13, od13, .func (PySem.W.fnOf "_law_item_read" "_law_item_read" (defArgs (topS 48)) (defBody (topS 48)) (defScope (topS 48)) .none kV13 dc13 pm13 an13 cd13 ct13), sl13⟩) (c13 : PySem.W.codeIn K cd13 "_law_item_read" = true) (k13 : PySem.W.keepIn K (.ref f13) = true)
    {f14 : Addr} {od14 an14 : Option Addr} {sl14 : Array (Option Value)} {oc14 kV14 dc14 pm14 cd14 ct14 : Value} (a14 : PySem.W.nsIn K mainGlobals "_law_due" = some (some (.ref f14))) (l14 : K.lookup f14 = some ⟨oc14, od14, .func (PySem.W.fnOf "_law_due" "_law_due" (defArgs (topS 49)) (defBody (topS 49)) (defScope (topS 49)) .none kV14 dc14 pm14 an14 cd14 ct14), sl14⟩) (c14 : PySem.W.codeIn K cd14 "_law_due" = true) (k14 : PySem.W.keepIn K (.ref f14) = true)
    {f15 : Addr} {od15 an15 : Option Addr} {sl15 : Array (Option Value)} {oc15 kV15 dc15 pm15 cd15 ct15 : Value} (a15 : PySem.W.nsIn K mainGlobals "is_whole" = some (some (.ref f15))) (l15 : K.lookup f15 = some ⟨oc15, od15, .func (PySem.W.fnOf "is_whole" "is_whole" (defArgs (topS 14)) (defBody (topS 14)) (defScope (topS 14)) .none kV15 dc15 pm15 an15 cd15 ct15), sl15⟩) (c15 : PySem.W.codeIn K cd15 "is_whole" = true) (k15 : PySem.W.keepIn K (.ref f15) = true)
    {f16 : Addr} {od16 an16 : Option Addr} {sl16 : Array (Option Value)} {oc16 kV16 dc16 pm16 cd16 ct16 : Value} (a16 : PySem.W.nsIn K mainGlobals "is_within" = some (some (.ref f16))) (l16 : K.lookup f16 = some ⟨oc16, od16, .func (PySem.W.fnOf "is_within" "is_within" (defArgs (topS 16)) (defBody (topS 16)) (defScope (topS 16)) .none kV16 dc16 pm16 an16 cd16 ct16), sl16⟩) (c16 : PySem.W.codeIn K cd16 "is_within" = true) (k16 : PySem.W.keepIn K (.ref f16) = true)
    {f17 : Addr} {od17 an17 : Option Addr} {sl17 : Array (Option Value)} {oc17 kV17 dc17 pm17 cd17 ct17 : Value} (a17 : PySem.W.nsIn K mainGlobals "is_name" = some (some (.ref f17))) (l17 : K.lookup f17 = some ⟨oc17, od17, .func (PySem.W.fnOf "is_name" "is_name" (defArgs (topS 26)) (defBody (topS 26)) (defScope (topS 26)) .none kV17 dc17 pm17 an17 cd17 ct17), sl17⟩) (c17 : PySem.W.codeIn K cd17 "is_name" = true) (k17 : PySem.W.keepIn K (.ref f17) = true)
    {f18 : Addr} {od18 an18 : Option Addr} {sl18 : Array (Option Value)} {oc18 kV18 dc18 pm18 cd18 ct18 : Value} (a18 : PySem.W.nsIn K mainGlobals "are_steps" = some (some (.ref f18))) (l18 : K.lookup f18 = some ⟨oc18, od18, .func (PySem.W.fnOf "are_steps" "are_steps" (defArgs (topS 24)) (defBody (topS 24)) (defScope (topS 24)) .none kV18 dc18 pm18 an18 cd18 ct18), sl18⟩) (c18 : PySem.W.codeIn K cd18 "are_steps" = true) (k18 : PySem.W.keepIn K (.ref f18) = true)
    {f19 : Addr} {od19 an19 : Option Addr} {sl19 : Array (Option Value)} {oc19 kV19 dc19 pm19 cd19 ct19 : Value} (a19 : PySem.W.nsIn K mainGlobals "is_speed" = some (some (.ref f19))) (l19 : K.lookup f19 = some ⟨oc19, od19, .func (PySem.W.fnOf "is_speed" "is_speed" (defArgs (topS 25)) (defBody (topS 25)) (defScope (topS 25)) .none kV19 dc19 pm19 an19 cd19 ct19), sl19⟩) (c19 : PySem.W.codeIn K cd19 "is_speed" = true) (k19 : PySem.W.keepIn K (.ref f19) = true)
    {f20 : Addr} {od20 an20 : Option Addr} {sl20 : Array (Option Value)} {oc20 kV20 dc20 pm20 cd20 ct20 : Value} (a20 : PySem.W.nsIn K mainGlobals "is_item" = some (some (.ref f20))) (l20 : K.lookup f20 = some ⟨oc20, od20, .func (PySem.W.fnOf "is_item" "is_item" (defArgs (topS 27)) (defBody (topS 27)) (defScope (topS 27)) .none kV20 dc20 pm20 an20 cd20 ct20), sl20⟩) (c20 : PySem.W.codeIn K cd20 "is_item" = true) (k20 : PySem.W.keepIn K (.ref f20) = true)
    {f21 : Addr} {od21 an21 : Option Addr} {sl21 : Array (Option Value)} {oc21 kV21 dc21 pm21 cd21 ct21 : Value} (a21 : PySem.W.nsIn K mainGlobals "are_figures" = some (some (.ref f21))) (l21 : K.lookup f21 = some ⟨oc21, od21, .func (PySem.W.fnOf "are_figures" "are_figures" (defArgs (topS 32)) (defBody (topS 32)) (defScope (topS 32)) .none kV21 dc21 pm21 an21 cd21 ct21), sl21⟩) (c21 : PySem.W.codeIn K cd21 "are_figures" = true) (k21 : PySem.W.keepIn K (.ref f21) = true)
    {f22 : Addr} {od22 an22 : Option Addr} {sl22 : Array (Option Value)} {oc22 kV22 dc22 pm22 cd22 ct22 : Value} (a22 : PySem.W.nsIn K mainGlobals "number_of" = some (some (.ref f22))) (l22 : K.lookup f22 = some ⟨oc22, od22, .func (PySem.W.fnOf "number_of" "number_of" (defArgs (topS 33)) (defBody (topS 33)) (defScope (topS 33)) .none kV22 dc22 pm22 an22 cd22 ct22), sl22⟩) (c22 : PySem.W.codeIn K cd22 "number_of" = true) (k22 : PySem.W.keepIn K (.ref f22) = true)
    {f23 : Addr} {od23 an23 : Option Addr} {sl23 : Array (Option Value)} {oc23 kV23 dc23 pm23 cd23 ct23 : Value} (a23 : PySem.W.nsIn K mainGlobals "item_of" = some (some (.ref f23))) (l23 : K.lookup f23 = some ⟨oc23, od23, .func (PySem.W.fnOf "item_of" "item_of" (defArgs (topS 34)) (defBody (topS 34)) (defScope (topS 34)) .none kV23 dc23 pm23 an23 cd23 ct23), sl23⟩) (c23 : PySem.W.codeIn K cd23 "item_of" = true) (k23 : PySem.W.keepIn K (.ref f23) = true)
    {f24 : Addr} {od24 an24 : Option Addr} {sl24 : Array (Option Value)} {oc24 kV24 dc24 pm24 cd24 ct24 : Value} (a24 : PySem.W.nsIn K mainGlobals "read_items" = some (some (.ref f24))) (l24 : K.lookup f24 = some ⟨oc24, od24, .func (PySem.W.fnOf "read_items" "read_items" (defArgs (topS 35)) (defBody (topS 35)) (defScope (topS 35)) .none kV24 dc24 pm24 an24 cd24 ct24), sl24⟩) (c24 : PySem.W.codeIn K cd24 "read_items" = true) (k24 : PySem.W.keepIn K (.ref f24) = true)
    {f25 : Addr} {od25 an25 : Option Addr} {sl25 : Array (Option Value)} {oc25 kV25 dc25 pm25 cd25 ct25 : Value} (a25 : PySem.W.nsIn K mainGlobals "_law_is_whole" = some (some (.ref f25))) (l25 : K.lookup f25 = some ⟨oc25, od25, .func (PySem.W.fnOf "_law_is_whole" "_law_is_whole" (defArgs (topS 39)) (defBody (topS 39)) (defScope (topS 39)) .none kV25 dc25 pm25 an25 cd25 ct25), sl25⟩) (c25 : PySem.W.codeIn K cd25 "_law_is_whole" = true) (k25 : PySem.W.keepIn K (.ref f25) = true)
    {f26 : Addr} {od26 an26 : Option Addr} {sl26 : Array (Option Value)} {oc26 kV26 dc26 pm26 cd26 ct26 : Value} (a26 : PySem.W.nsIn K mainGlobals "_law_told" = some (some (.ref f26))) (l26 : K.lookup f26 = some ⟨oc26, od26, .func (PySem.W.fnOf "_law_told" "_law_told" (defArgs (topS 54)) (defBody (topS 54)) (defScope (topS 54)) .none kV26 dc26 pm26 an26 cd26 ct26), sl26⟩) (c26 : PySem.W.codeIn K cd26 "_law_told" = true) (k26 : PySem.W.keepIn K (.ref f26) = true)
    {f27 : Addr} {od27 an27 : Option Addr} {sl27 : Array (Option Value)} {oc27 kV27 dc27 pm27 cd27 ct27 : Value} (a27 : PySem.W.nsIn K mainGlobals "law" = some (some (.ref f27))) (l27 : K.lookup f27 = some ⟨oc27, od27, .func (PySem.W.fnOf "law" "law" (defArgs (topS 55)) (defBody (topS 55)) (defScope (topS 55)) .none kV27 dc27 pm27 an27 cd27 ct27), sl27⟩) (c27 : PySem.W.codeIn K cd27 "law" = true) (k27 : PySem.W.keepIn K (.ref f27) = true)
    (z_ValueError : PySem.W.nsIn K mainGlobals "ValueError" = some none)
    (z_abs : PySem.W.nsIn K mainGlobals "abs" = some none)
    (z_all : PySem.W.nsIn K mainGlobals "all" = some none)
    (z_any : PySem.W.nsIn K mainGlobals "any" = some none)
    (z_bool : PySem.W.nsIn K mainGlobals "bool" = some none)
    (z_enumerate : PySem.W.nsIn K mainGlobals "enumerate" = some none)
    (z_int : PySem.W.nsIn K mainGlobals "int" = some none)
    (z_isinstance : PySem.W.nsIn K mainGlobals "isinstance" = some none)
    (z_len : PySem.W.nsIn K mainGlobals "len" = some none)
    (z_max : PySem.W.nsIn K mainGlobals "max" = some none)
    (z_min : PySem.W.nsIn K mainGlobals "min" = some none)
    (z_range : PySem.W.nsIn K mainGlobals "range" = some none)
    (z_str : PySem.W.nsIn K mainGlobals "str" = some none)
    (z_tuple : PySem.W.nsIn K mainGlobals "tuple" = some none)
    {C_Full : Addr} (gc_Full : PySem.W.nsIn K mainGlobals "Full" = some (some (.ref C_Full)))
    {C_GlideError : Addr} (gc_GlideError : PySem.W.nsIn K mainGlobals "GlideError" = some (some (.ref C_GlideError)))
    {C_Moving : Addr} (gc_Moving : PySem.W.nsIn K mainGlobals "Moving" = some (some (.ref C_Moving)))
    {C_NoFraction : Addr} (gc_NoFraction : PySem.W.nsIn K mainGlobals "NoFraction" = some (some (.ref C_NoFraction)))
    {C_NoItem : Addr} (gc_NoItem : PySem.W.nsIn K mainGlobals "NoItem" = some (some (.ref C_NoItem)))
    {C_NoLine : Addr} (gc_NoLine : PySem.W.nsIn K mainGlobals "NoLine" = some (some (.ref C_NoLine)))
    {C_NoMachine : Addr} (gc_NoMachine : PySem.W.nsIn K mainGlobals "NoMachine" = some (some (.ref C_NoMachine)))
    {C_NoPlace : Addr} (gc_NoPlace : PySem.W.nsIn K mainGlobals "NoPlace" = some (some (.ref C_NoPlace)))
    {C_NoRate : Addr} (gc_NoRate : PySem.W.nsIn K mainGlobals "NoRate" = some (some (.ref C_NoRate)))
    {C_NoTape : Addr} (gc_NoTape : PySem.W.nsIn K mainGlobals "NoTape" = some (some (.ref C_NoTape)))
    {C_NoText : Addr} (gc_NoText : PySem.W.nsIn K mainGlobals "NoText" = some (some (.ref C_NoText)))
    {C_OffRails : Addr} (gc_OffRails : PySem.W.nsIn K mainGlobals "OffRails" = some (some (.ref C_OffRails)))
    (xhg_NoText : PySem.W.findIn K (.ref C_NoText) "__getattribute__" = some (some (.builtin "BaseException.__getattribute__")))
    (xhk_NoText : PySem.W.findIn K (.ref C_NoText) "__getattr__" = some none)
    (xhs_NoText : PySem.W.subIn K (.ref C_NoText) (.type "BaseException") = some true)
    (xhd_NoText : PySem.W.hasDictIn K C_NoText = true)
    (xha_NoText : PySem.W.findIn K (.ref C_NoText) "__class__" = some (some (.builtin "object.__class__")))
    (xhn_NoText : PySem.W.specialIn K (.builtin "object.__class__") "__get__" = some (some (.builtin "getset_descriptor.__get__")))
    (xht_NoText : PySem.W.takesIn K (.builtin "object.__class__") = some true)
    (xhm_NoText : PySem.W.mroIn K C_NoText (.type "object") = some true)
    (hd_Full : PySem.W.hasDictIn K C_Full = true) (ty_Full : PySem.W.typeIn K (.ref C_Full) = some (.type "type"))
    (hd_GlideError : PySem.W.hasDictIn K C_GlideError = true) (ty_GlideError : PySem.W.typeIn K (.ref C_GlideError) = some (.type "type"))
    (hd_Moving : PySem.W.hasDictIn K C_Moving = true) (ty_Moving : PySem.W.typeIn K (.ref C_Moving) = some (.type "type"))
    (hd_NoFraction : PySem.W.hasDictIn K C_NoFraction = true) (ty_NoFraction : PySem.W.typeIn K (.ref C_NoFraction) = some (.type "type"))
    (hd_NoItem : PySem.W.hasDictIn K C_NoItem = true) (ty_NoItem : PySem.W.typeIn K (.ref C_NoItem) = some (.type "type"))
    (hd_NoLine : PySem.W.hasDictIn K C_NoLine = true) (ty_NoLine : PySem.W.typeIn K (.ref C_NoLine) = some (.type "type"))
    (hd_NoMachine : PySem.W.hasDictIn K C_NoMachine = true) (ty_NoMachine : PySem.W.typeIn K (.ref C_NoMachine) = some (.type "type"))
    (hd_NoPlace : PySem.W.hasDictIn K C_NoPlace = true) (ty_NoPlace : PySem.W.typeIn K (.ref C_NoPlace) = some (.type "type"))
    (hd_NoRate : PySem.W.hasDictIn K C_NoRate = true) (ty_NoRate : PySem.W.typeIn K (.ref C_NoRate) = some (.type "type"))
    (hd_NoTape : PySem.W.hasDictIn K C_NoTape = true) (ty_NoTape : PySem.W.typeIn K (.ref C_NoTape) = some (.type "type"))
    (hd_NoText : PySem.W.hasDictIn K C_NoText = true) (ty_NoText : PySem.W.typeIn K (.ref C_NoText) = some (.type "type"))
    (hd_OffRails : PySem.W.hasDictIn K C_OffRails = true) (ty_OffRails : PySem.W.typeIn K (.ref C_OffRails) = some (.type "type"))
    (bb_GlideError : PySem.W.subIn K (.ref C_GlideError) (.type "BaseException") = some true)
    (sb_NoText_Full : PySem.W.subIn K (.ref C_NoText) (.ref C_Full) = some false)
    (sb_NoText_GlideError : PySem.W.subIn K (.ref C_NoText) (.ref C_GlideError) = some true)
    (sb_NoText_Moving : PySem.W.subIn K (.ref C_NoText) (.ref C_Moving) = some false)
    (sb_NoText_NoFraction : PySem.W.subIn K (.ref C_NoText) (.ref C_NoFraction) = some false)
    (sb_NoText_NoItem : PySem.W.subIn K (.ref C_NoText) (.ref C_NoItem) = some false)
    (sb_NoText_NoLine : PySem.W.subIn K (.ref C_NoText) (.ref C_NoLine) = some false)
    (sb_NoText_NoMachine : PySem.W.subIn K (.ref C_NoText) (.ref C_NoMachine) = some false)
    (sb_NoText_NoPlace : PySem.W.subIn K (.ref C_NoText) (.ref C_NoPlace) = some false)
    (sb_NoText_NoRate : PySem.W.subIn K (.ref C_NoText) (.ref C_NoRate) = some false)
    (sb_NoText_NoTape : PySem.W.subIn K (.ref C_NoText) (.ref C_NoTape) = some false)
    (sb_NoText_NoText : PySem.W.subIn K (.ref C_NoText) (.ref C_NoText) = some true)
    (sb_NoText_OffRails : PySem.W.subIn K (.ref C_NoText) (.ref C_OffRails) = some false)
    (sv_NoText_ValueError : PySem.W.subIn K (.ref C_NoText) (.type "ValueError") = some true)
    (xf_NoText_at : PySem.W.findIn K (.ref C_NoText) (Str.ofString "at") = some none)
    (sg_GlideError : PySem.W.specialIn K (.ref C_GlideError) "__getattribute__" = some (some (.builtin "type.__getattribute__")))
    (sr_GlideError : PySem.W.readsIn K C_GlideError (.type "type") = true)
    (sv_GlideError : PySem.W.findCls K (.ref C_GlideError) (.type "type") "__init__" = some (.val (.builtin "ValueError.__init__")))
    {nm_NoText q_NoText : Str} {N_NoText : Addr} {bs_NoText : List Value} {sn_NoText : List Str} {sub_NoText : List Value} {ab_NoText : Bool} {col_NoText : Option Bool} {dd_NoText : Option Addr} {m0_NoText m1_NoText m2_NoText m3_NoText m5_NoText : Option Value} (xL_NoText : K.lookup C_NoText = some (excClassObj nm_NoText q_NoText C_NoText N_NoText bs_NoText [.ref C_GlideError, .type "ValueError", .type "Exception", .type "BaseException", .type "object"] true sn_NoText sub_NoText ab_NoText col_NoText dd_NoText m0_NoText m1_NoText m2_NoText m3_NoText m5_NoText "ValueError.__new__"))
    (xs_NoText : PySem.W.findIn K (.ref C_NoText) "__setattr__" = some (some (.builtin "object.__setattr__"))) (xb_NoText : PySem.W.subIn K (.ref C_NoText) (.type "BaseException") = some true) (xt_NoText : PySem.W.typeIn K (.ref C_NoText) = some (.type "type")) (xk_NoText : PySem.W.keepIn K (.ref C_NoText) = true)
    {fx_NoText : Addr} {odx_NoText anx_NoText : Option Addr} {slx_NoText : Array (Option Value)} {ocx_NoText kVx_NoText dcx_NoText pmx_NoText cdx_NoText ctx_NoText : Value} (xi_NoText : PySem.W.findIn K (.ref C_NoText) "__init__" = some (some (.ref fx_NoText))) (xy_NoText : PySem.W.typeIn K (.ref fx_NoText) = some (.type "function")) (xl_NoText : K.lookup fx_NoText = some ⟨ocx_NoText, odx_NoText, .func (PySem.W.fnOf "__init__" "NoText.__init__" (defArgs (inClass (topS 9) 0)) (defBody (inClass (topS 9) 0)) (defScope (inClass (topS 9) 0)) .none kVx_NoText dcx_NoText pmx_NoText anx_NoText cdx_NoText ctx_NoText), slx_NoText⟩) (xc_NoText : PySem.W.codeIn K cdx_NoText "NoText.__init__" = true) (xkk_NoText : PySem.W.keepIn K (.ref fx_NoText) = true)
    (xn_NoText_at : PySem.W.findIn K (.ref C_NoText) (Str.ofString "at") = some none)
    {t_FIGURES : Tok} (g_FIGURES : PySem.W.nsIn K mainGlobals "FIGURES" = some (some (.str "0123456789" t_FIGURES)))
    {t_MOST_FIGURES : Tok} (g_MOST_FIGURES : PySem.W.nsIn K mainGlobals "MOST_FIGURES" = some (some (.int 4 t_MOST_FIGURES)))
    {t_MOST_ITEMS : Tok} (g_MOST_ITEMS : PySem.W.nsIn K mainGlobals "MOST_ITEMS" = some (some (.int 20 t_MOST_ITEMS)))
    {t_MOST_LETTERS : Tok} (g_MOST_LETTERS : PySem.W.nsIn K mainGlobals "MOST_LETTERS" = some (some (.int 8 t_MOST_LETTERS)))
    {t_MOST_SPEED : Tok} (g_MOST_SPEED : PySem.W.nsIn K mainGlobals "MOST_SPEED" = some (some (.int 20 t_MOST_SPEED)))
    {t_MOST_STEPS : Tok} (g_MOST_STEPS : PySem.W.nsIn K mainGlobals "MOST_STEPS" = some (some (.int 100 t_MOST_STEPS)))
    {t_MOST_WAIT : Tok} (g_MOST_WAIT : PySem.W.nsIn K mainGlobals "MOST_WAIT" = some (some (.int 1000 t_MOST_WAIT)))
    {p_SIDES : Addr} {t0_SIDES t1_SIDES : Tok} {d_SIDES : Option Addr} {n_SIDES : Nat} {s_SIDES : Array (Option Value)} (g_SIDES : PySem.W.nsIn K mainGlobals "SIDES" = some (some (.ref p_SIDES))) (h_SIDES : K.lookup p_SIDES = some ⟨.type "tuple", d_SIDES, .seq #[.str "up" t0_SIDES, .str "down" t1_SIDES] n_SIDES, s_SIDES⟩)
    {t_SMALL : Tok} (g_SMALL : PySem.W.nsIn K mainGlobals "SMALL" = some (some (.str "abcdefghijklmnopqrstuvwxyz" t_SMALL))),
    ∃ fd : FuncData, (∀ (s : Shared) (v : Value), BindsTo s fd ⟨[v], []⟩ [("_law_script", v)]) ∧ ∀ base : Heap, K.In base → base.Ns mainGlobals mg → FnOk (PySem.Challenge.rw_glidequeue_k54_texts_of_no_items).prog w K mg base (L2N.CX (PySem.Challenge.rw_glidequeue_k54_texts_of_no_items).prog w) 8 fa fd ["_law_script"] (S K)
end Lw
namespace Lw
open PySem PySem.W
abbrev R : OpenRow := OpenLaw.row PySem.Challenge.rw_glidequeue_k54_texts_of_no_items
abbrev qv : Program := view R.prog [55]
abbrev dv : DefRec := HandSHeadRun.topDef R.prog 55
def names0 : List PySem.Str := ["__name__", "GlideError", "NoFraction", "NoRate", "NoItem", "OffRails", "Full", "Moving", "NoTape", "NoText", "NoMachine", "NoPlace", "NoLine", "is_whole", "is_within", "MOST_STEPS", "MOST_SPEED", "MOST_WAIT", "MOST_LETTERS", "SMALL", "SIDES", "are_steps", "is_speed", "is_name", "is_item", "FIGURES", "MOST_FIGURES", "MOST_ITEMS", "are_figures", "number_of"]
def names1 : List PySem.Str := ["item_of", "read_items", "_law_bag", "_law_take", "_law_is_whole", "_law_machine", "_law_name", "_law_item", "_law_item_text", "_law_fraction_text", "_law_sign", "_law_number_read", "_law_line_read", "_law_item_read", "_law_due", "_law_word", "_law_words_put", "_law_signs_put", "_law_text", "_law_told"]
def names : List PySem.Str := names0 ++ names1
theorem looks : GB.LooksEq R qv 30000 names := by
  intro w os
  kernel_rfl
end Lw
open PySem PySem.W PyProof.Rows in
local macro_rules | `(tactic| o_head $H:term) => `(tactic| refine GB.head_k (r := Lw.R) (q := Lw.qv) (H := $H) (M := 30000) (loose := Lw.names) (d := Lw.dv) (kwd := []) rfl Lw.looks (by kernel_rfl) (fun s => by kernel_rfl) (by intro w os; kernel_rfl) (by kernel_rfl) (by kernel_rfl) (by kernel_rfl) (by rfl) (by first | assumption | decide +kernel) (by decide +kernel) ⟨rfl, rfl, rfl, rfl, rfl, by decide +kernel⟩ ?_ ?_)
open PySem PySem.W PyProof.Rows in
theorem Lw.hd {S : PySem.W.Frag → L2.Sp} (AM : Lw.AMK S) (hT : ∀ (K : PySem.W.Frag) (H : L2.Hp) (a : Addr) (ns : List Int), ns.length ≤ 63 → L2.SqL K H a (ns.map L2.V.int) → S K [.ref a] H (fun v _ => v = .bl true) fun _ _ _ => False) : PySem.Challenge.rw_glidequeue_k54_texts_of_no_items.Holds := by
  w_on; o_law; k_head
  · w_witness2
  k_fill
  refine L2.walk_of (l := PySem.Challenge.rw_glidequeue_k54_texts_of_no_items) (n := 63) (k := 8) (x := "_law_script") (CX := fun w => L2N.CX PySem.Challenge.rw_glidequeue_k54_texts_of_no_items.prog w) (sp := fun w => S _) rfl (by decide) (by kernel_rfl) ⟨rfl, by decide, by decide⟩ (fun w h Y => PySem.W.kIn_of Y) ?F (fun w H a ns hl _ hS => hT _ H a ns hl hS) (fun _ _ _ _ _ h => GB.cx_no h)
  case F =>
    intro w mg fa h KX G hmg0
    have hmg : mg ("law" : PySem.Str) = some (.ref fa) := by
      have e : Lw.dv.name = ("law" : PySem.Str) := by kernel_rfl
      rw [← e]
      exact hmg0
    refine' AM KX G hmg ?a0 ?l0 ?c0 ?k0 ?a1 ?l1 ?c1 ?k1 ?a2 ?l2 ?c2 ?k2 ?a3 ?l3 ?c3 ?k3 ?a4 ?l4 ?c4 ?k4 ?a5 ?l5 ?c5 ?k5 ?a6 ?l6 ?c6 ?k6 ?a7 ?l7 ?c7 ?k7 ?a8 ?l8 ?c8 ?k8 ?a9 ?l9 ?c9 ?k9 ?a10 ?l10 ?c10 ?k10 ?a11 ?l11 ?c11 ?k11 ?a12 ?l12 ?c12 ?k12 ?a13 ?l13 ?c13 ?k13 ?a14 ?l14 ?c14 ?k14 ?a15 ?l15 ?c15 ?k15 ?a16 ?l16 ?c16 ?k16 ?a17 ?l17 ?c17 ?k17 ?a18 ?l18 ?c18 ?k18 ?a19 ?l19 ?c19 ?k19 ?a20 ?l20 ?c20 ?k20 ?a21 ?l21 ?c21 ?k21 ?a22 ?l22 ?c22 ?k22 ?a23 ?l23 ?c23 ?k23 ?a24 ?l24 ?c24 ?k24 ?a25 ?l25 ?c25 ?k25 ?a26 ?l26 ?c26 ?k26 ?a27 ?l27 ?c27 ?k27 ?z_ValueError ?z_abs ?z_all ?z_any ?z_bool ?z_enumerate ?z_int ?z_isinstance ?z_len ?z_max ?z_min ?z_range ?z_str ?z_tuple ?gc_Full ?gc_GlideError ?gc_Moving ?gc_NoFraction ?gc_NoItem ?gc_NoLine ?gc_NoMachine ?gc_NoPlace ?gc_NoRate ?gc_NoTape ?gc_NoText ?gc_OffRails ?xhg_NoText ?xhk_NoText ?xhs_NoText ?xhd_NoText ?xha_NoText ?xhn_NoText ?xht_NoText ?xhm_NoText ?hd_Full ?ty_Full ?hd_GlideError ?ty_GlideError ?hd_Moving ?ty_Moving ?hd_NoFraction ?ty_NoFraction ?hd_NoItem ?ty_NoItem ?hd_NoLine ?ty_NoLine ?hd_NoMachine ?ty_NoMachine ?hd_NoPlace ?ty_NoPlace ?hd_NoRate ?ty_NoRate ?hd_NoTape ?ty_NoTape ?hd_NoText ?ty_NoText ?hd_OffRails ?ty_OffRails ?bb_GlideError ?sb_NoText_Full ?sb_NoText_GlideError ?sb_NoText_Moving ?sb_NoText_NoFraction ?sb_NoText_NoItem ?sb_NoText_NoLine ?sb_NoText_NoMachine ?sb_NoText_NoPlace ?sb_NoText_NoRate ?sb_NoText_NoTape ?sb_NoText_NoText ?sb_NoText_OffRails ?sv_NoText_ValueError ?xf_NoText_at ?sg_GlideError ?sr_GlideError ?sv_GlideError ?xL_NoText ?xs_NoText ?xb_NoText ?xt_NoText ?xk_NoText ?xi_NoText ?xy_NoText ?xl_NoText ?xc_NoText ?xkk_NoText ?xn_NoText_at ?g_FIGURES ?g_MOST_FIGURES ?g_MOST_ITEMS ?g_MOST_LETTERS ?g_MOST_SPEED ?g_MOST_STEPS ?g_MOST_WAIT ?g_SIDES ?h_SIDES ?g_SMALL
    (case a0 => k_is); (case l0 => k_is); (case c0 => k_is); (case k0 => k_is); (case a1 => k_is); (case l1 => k_is); (case c1 => k_is); (case k1 => k_is); (case a2 => k_is); (case l2 => k_is); (case c2 => k_is); (case k2 => k_is); (case a3 => k_is); (case l3 => k_is); (case c3 => k_is); (case k3 => k_is); (case a4 => k_is); (case l4 => k_is); (case c4 => k_is); (case k4 => k_is); (case a5 => k_is); (case l5 => k_is); (case c5 => k_is); (case k5 => k_is); (case a6 => k_is); (case l6 => k_is); (case c6 => k_is); (case k6 => k_is); (case a7 => k_is); (case l7 => k_is); (case c7 => k_is); (case k7 => k_is); (case a8 => k_is); (case l8 => k_is); (case c8 => k_is); (case k8 => k_is); (case a9 => k_is); (case l9 => k_is); (case c9 => k_is); (case k9 => k_is); (case a10 => k_is); (case l10 => k_is); (case c10 => k_is); (case k10 => k_is); (case a11 => k_is); (case l11 => k_is); (case c11 => k_is); (case k11 => k_is); (case a12 => k_is); (case l12 => k_is); (case c12 => k_is); (case k12 => k_is); (case a13 => k_is); (case l13 => k_is); (case c13 => k_is); (case k13 => k_is); (case a14 => k_is); (case l14 => k_is); (case c14 => k_is); (case k14 => k_is); (case a15 => k_is); (case l15 => k_is); (case c15 => k_is); (case k15 => k_is); (case a16 => k_is); (case l16 => k_is); (case c16 => k_is); (case k16 => k_is); (case a17 => k_is); (case l17 => k_is); (case c17 => k_is); (case k17 => k_is); (case a18 => k_is); (case l18 => k_is); (case c18 => k_is); (case k18 => k_is); (case a19 => k_is); (case l19 => k_is); (case c19 => k_is); (case k19 => k_is); (case a20 => k_is); (case l20 => k_is); (case c20 => k_is); (case k20 => k_is); (case a21 => k_is); (case l21 => k_is); (case c21 => k_is); (case k21 => k_is); (case a22 => k_is); (case l22 => k_is); (case c22 => k_is); (case k22 => k_is); (case a23 => k_is); (case l23 => k_is); (case c23 => k_is); (case k23 => k_is); (case a24 => k_is); (case l24 => k_is); (case c24 => k_is); (case k24 => k_is); (case a25 => k_is); (case l25 => k_is); (case c25 => k_is); (case k25 => k_is); (case a26 => k_is); (case l26 => k_is); (case c26 => k_is); (case k26 => k_is); (case a27 => k_is); (case l27 => k_is); (case c27 => k_is); (case k27 => k_is); (case z_ValueError => k_is); (case z_abs => k_is); (case z_all => k_is); (case z_any => k_is); (case z_bool => k_is); (case z_enumerate => k_is); (case z_int => k_is); (case z_isinstance => k_is); (case z_len => k_is); (case z_max => k_is); (case z_min => k_is); (case z_range => k_is); (case z_str => k_is); (case z_tuple => k_is); (case gc_Full => k_is); (case gc_GlideError => k_is); (case gc_Moving => k_is); (case gc_NoFraction => k_is); (case gc_NoItem => k_is); (case gc_NoLine => k_is); (case gc_NoMachine => k_is); (case gc_NoPlace => k_is); (case gc_NoRate => k_is); (case gc_NoTape => k_is); (case gc_NoText => k_is); (case gc_OffRails => k_is); (case xhg_NoText => k_is); (case xhk_NoText => k_is); (case xhs_NoText => k_is); (case xhd_NoText => k_is); (case xha_NoText => k_is); (case xhn_NoText => k_is); (case xht_NoText => k_is); (case xhm_NoText => k_is); (case hd_Full => k_is); (case ty_Full => k_is); (case hd_GlideError => k_is); (case ty_GlideError => k_is); (case hd_Moving => k_is); (case ty_Moving => k_is); (case hd_NoFraction => k_is); (case ty_NoFraction => k_is); (case hd_NoItem => k_is); (case ty_NoItem => k_is); (case hd_NoLine => k_is); (case ty_NoLine => k_is); (case hd_NoMachine => k_is); (case ty_NoMachine => k_is); (case hd_NoPlace => k_is); (case ty_NoPlace => k_is); (case hd_NoRate => k_is); (case ty_NoRate => k_is); (case hd_NoTape => k_is); (case ty_NoTape => k_is); (case hd_NoText => k_is); (case ty_NoText => k_is); (case hd_OffRails => k_is); (case ty_OffRails => k_is); (case bb_GlideError => k_is); (case sb_NoText_Full => k_is); (case sb_NoText_GlideError => k_is); (case sb_NoText_Moving => k_is); (case sb_NoText_NoFraction => k_is); (case sb_NoText_NoItem => k_is); (case sb_NoText_NoLine => k_is); (case sb_NoText_NoMachine => k_is); (case sb_NoText_NoPlace => k_is); (case sb_NoText_NoRate => k_is); (case sb_NoText_NoTape => k_is); (case sb_NoText_NoText => k_is); (case sb_NoText_OffRails => k_is); (case sv_NoText_ValueError => k_is); (case xf_NoText_at => k_is); (case sg_GlideError => k_is); (case sr_GlideError => k_is); (case sv_GlideError => k_is); (case xL_NoText => k_is); (case xs_NoText => k_is); (case xb_NoText => k_is); (case xt_NoText => k_is); (case xk_NoText => k_is); (case xi_NoText => k_is); (case xy_NoText => k_is); (case xl_NoText => k_is); (case xc_NoText => k_is); (case xkk_NoText => k_is); (case xn_NoText_at => k_is); (case g_FIGURES => k_is); (case g_MOST_FIGURES => k_is); (case g_MOST_ITEMS => k_is); (case g_MOST_LETTERS => k_is); (case g_MOST_SPEED => k_is); (case g_MOST_STEPS => k_is); (case g_MOST_WAIT => k_is); (case g_SIDES => k_is); (case h_SIDES => k_is); (case g_SMALL => k_is)
namespace GB
open PySem PySem.Spec PyProof.Rows L2
def toBox (f : SE) : SE := fun τ h => (f τ h).bind fun t h1 =>
  match t with
  | .lst ts => .ok (.box h1.length) (h1 ++ [.lst ts])
  | _ => .no
def isObj (c : Cn) (h : IH) : T → Option (Nat × List T)
  | .box n => match h[n]? with
    | some (.obj c' ts) => if c' = c then some (n, ts) else none
    | _ => none
  | _ => none
def eFld (c : Cn) (i : Nat) (f : SE) : SE := fun τ h => (f τ h).bind fun x h1 =>
  match isObj c h1 x with
  | some p => Rs.of p.2[i]? h1
  | none => .no
def putAt (ts : List T) (i : Nat) (v : T) : List T := if i < ts.length then ts.set i v else ts ++ [v]
def sFldT (c : Cn) (i : Nat) (fo fv : SE) : SS := fun τ h => (fv τ h).fl τ fun v h1 => (fo τ h1).fl τ fun x h2 =>
  match isObj c h2 x with
  | some p => if i ≤ p.2.length then .nx τ (h2.set p.1 (.obj c (putAt p.2 i v))) else .no
  | none => .no
def sFldInc (c : Cn) (i : Nat) (fo fv : SE) : SS := fun τ h => (fo τ h).fl τ fun x h1 =>
  match isObj c h1 x with
  | some p => match p.2[i]? with
    | some (.int a) => (fv τ h1).fl τ fun y h2 =>
      match y with
      | .int b => match isObj c h2 x with
        | some q => if i < q.2.length then .nx τ (h2.set q.1 (.obj c (q.2.set i (.int (a + b))))) else .no
        | none => .no
      | _ => .no
    | _ => .no
  | none => .no
def eMeth (c : Cn) (F : SF) (o : SE) (f : SA) : SE := fun τ h => (o τ h).bind fun x h1 =>
  match isObj c h1 x with
  | some _ => (f τ h1).bind fun ts h2 => F (x :: ts) h2
  | none => .no
def eMake (c : Cn) (F : SF) (f : SA) : SE := fun τ h => (f τ h).bind fun ts h1 => (F (.box h1.length :: ts) (h1 ++ [.obj c []])).bind fun t h2 =>
  match t with
  | .non => .ok (.box h1.length) h2
  | _ => .no
section
variable {X : Cx} {E : WX} {en : Ent} {rk kd : Kd} {lin lin' : List Nat} {a b : Expr} {es : List Expr} {fa fb : SE} {fs : SA} {c : Cn} {i k j : Nat} {f m x : Str} {pos pos' apos tpos p : Pos} {F : SF} {pl : Sem Bool}
theorem run_back {K : PySem.W.Frag} {mg : Str → Option Value} {E : XK} {kd : Kd} {G G1 : Hp} {R R1 : List Addr} {H H1 : Hp} {h1 : IH} {r : Rs T} {Q : VK} (g1 : Gd K G1 R1 H1 h1) (e1 : Ext G R H G1 R1 H1)
    (o : Out K mg E G1 R1 H1 r fun t G' R' H' => ∀ v, Res K kd H t v G' R' H' → Q v H') : Out K mg E G1 R1 H1 r fun t G' R' H' => ∀ v, Res K kd H1 t v G' R' H' → Q v H' := by
  cases r with
  | ok t h' => exact fun G' R' H' g' e' v r => o G' R' H' g' e' v (Res.back g1 e1 r)
  | exc x h' => exact o
  | no => exact o
end
end GB
namespace GB
open PySem PySem.Spec PyProof.Rows L2
section
variable {X : Cx} {e : Expr} {es : List Expr} {ta : TA} {p1 p2 pos : Pos} {n : Str} {B : Addr}
/-- B.__init__(self, ..), B of the program over ValueError, without an __init__ of its own -/
theorem pe_ginit {pl : Sem Bool} (hg : Gl X n) (hm : X.mg n = some (.ref B)) (hs : PySem.W.specialIn X.K (.ref B) "__getattribute__" = some (some (.builtin "type.__getattribute__"))) (hr : PySem.W.readsIn X.K B (.type "type") = true)
    (vV : PySem.W.findCls X.K (.ref B) (.type "type") "__init__" = some (.val (.builtin "ValueError.__init__"))) (ha : PA X (e :: es) ta)
    (hdb : (n == ("__debug__" : Str)) = false := by decide)
    (hc : eval (.Call (.Attribute (.Name n p1) "__init__" p2) (e :: es) [] pos) X.env = (do
      let ov ← eval (.Name n p1) X.env
      standAt p2.atName
      let (f, first) ← holding [ov] (getMethod ov "__init__" pl)
      callWith pos f first (backTo pos (starEach (e :: es) X.env)) (backToKw pos (keywordEach [] X.env))) := by rfl)
    (he : starEach (e :: es) X.env = (false, eval e X.env) :: starEach es X.env := by rfl) (hpl : (backTo pos (starEach es X.env)).any (·.1) = false := by rfl) :
    PE X (.Call (.Attribute (.Name n p1) "__init__" p2) (e :: es) [] pos) (tVeI X.K ta) := by
  refine ⟨fun pins s σ H Q I h => ?_⟩
  refine PySem.W.methodCall_KW (ld_glob I hg hm ?_ hdb) hc
  obtain ⟨m, fr⟩ := I.fr
  refine PySem.W.method_cls I.kIn hs (PySem.W.cls_value I.kIn hr vV (by decide +kernel) ?_)
  show wpAny _ _ (callWith pos (Value.builtin "ValueError.__init__") [] (backTo pos (starEach (e :: es) X.env)) []) _ _ _
  refine PyProof.Rows.callWith_method1 (thn (ha.run pos pins _ σ H _ (I.tok _) h) fun us s1 ⟨vs, H1, I1, r1, a, C, ws, ev, hl, T, ea, q⟩ => ?_) he hpl
  subst ev
  cases r1 with
  | @cons _ u0 _ ur ra rw' =>
    obtain rfl : u0 = Value.ref a := ra
    have hlen : ur.length ≤ sizeLine := by
      rw [← Paired.length rw', sizeLine_eq]
      omega
    exact oinit_ok T I1 ea hlen fun s' J => ⟨.non, H1, J, rfl, q⟩
end
/-- what such an __init__ does -/
def spX (K : PySem.W.Frag) (ns : List Str) : Sp := fun vs H Q _ => ∃ (a C : Addr) (w : V) (us : List V), vs = .ref a :: w :: us ∧ us.length = ns.length ∧ OexC K C ∧ (∀ f ∈ ns, PySem.W.findIn K (.ref C) f = some none) ∧ H a = some (exo a C none) ∧
  ∀ dx, H dx = none → dx ≠ a → Q .non (upd (upd H dx (exd dx (ns.zip us).reverse)) a (exo a C (some dx)))
section
variable {P : Program} {w : World} {K : PySem.W.Frag} {mg : Str → Option Value} {base : Heap} {q f1 f2 : Str} {st : Stmt} {f : Addr} {fd : FuncData}
theorem oexInit1 (F : L2.Fun K "__init__" q st f fd) (S : FnScope ["self", "words", f1] ["self", "words", f1] (defScope st))
    (hw : ∀ (cdv : Value) (A : Around) (outer : List Env) (s : Shared) (H : Hp) (E : XK), PSs (bodyX P w K mg base ["self", "words", f1] q st f cdv A outer s H E) (defBody st) (tSeq (tDrop (tVeI K (tCons (tVar 0) (tCons (tVar 1) tNil)))) (tOst K f1 (tVar 0) (tVar 2)))) :
    FnOk P w K mg base (L2N.CX P w) 1 f fd ["self", "words", f1] (spX K [f1]) := by
  refine okN F S (fun vs H Q E h => ?_) (fun cdv A outer s H vs Q E hr h => ⟨_, hw cdv A outer s H E, ?_⟩)
  · obtain ⟨a, C, w, us, rfl, hl, _⟩ := h
    match us, hl with
    | [_], _ => rfl
  · obtain ⟨a, C, w, us, rfl, hl, T, hno, ea, k⟩ := h
    match us, hl with
    | [y], _ =>
      refine ⟨.ref a, rfl, w, rfl, a, C, [w], rfl, (by show 1 ≤ 1000; decide), T, ea, ?_⟩
      exact ⟨y, rfl, .ref a, rfl, a, C, rfl, T, hno f1 (by simp), .inl ⟨ea, fun dx nx ne => k dx nx ne⟩⟩
end
section
variable {X : Cx} {o e : Expr} {es : List Expr} {to te : TE} {ta : TA} {f : Str} {p p' p1 p2 pos : Pos}
/-- the end of C(e, ..), the context told to be None -/
theorem mk_endN {pins : List (Addr × Obj)} {σ : L2.St} {H1 H2 : Hp} {Q : XK} {hp hp2 h2 : Heap} {g1 g2 : Array GenState} {d1 d2 : PySem.Drawn} {t1 t2 : Nat} {os1 os2 : OsState} {a C d : Addr} {fs : List (Str × V)} (T : Raises X (.ref C)) (I1 : L2.Inv X pins σ H1 ⟨hp, g1, d1, t1, os1⟩)
    (ha : hp.objs.size ≤ a) (k : ∀ b o, hp.get? b = some o → hp2.get? b = some o) (un : L2.Un (frs X.stack) [] (upd H1 a (exo a C none)) H2 hp2 h2) (hok : HOk X.prog X.w H2 h2) (ho : os2 = os1) (hb : AllBare g2)
    (ea : H2 a = some (exo a C (some d))) (ed : H2 d = some (exd d fs)) (hd1 : H1 d = none) (q : Q (.ref C) (some d) (upd (del H2 a) d (.xd fs))) : L2N.MkP X pins σ Q (.ref a) ⟨h2, g2, d2, t2, os2⟩ := by
  obtain ⟨t0, G, J, kG, ge, hoe, na⟩ := mk_end0 (d2 := d2) (t2 := t2) I1 ha k un hok ho hb ea ed hd1
  exact ⟨a, _, _, ⟨G, g2, d2, t2, os2⟩, _, .ref C, some d, rfl, J, kG, ge, hoe, ⟨rfl, rfl, fun vs e => by cases e; rfl⟩, rfl, rfl, na, rfl, hb, T, q⟩
theorem pmk_oexN {CX : CXT} {x : Str} {C fI : Addr} {k : Nat} {fd : FuncData} {ps : List Str} {sp : Sp} {ds : List Value} {dvs : List V} (T : OexC X.K C) (iC : PySem.W.findIn X.K (.ref C) "__init__" = some (some (.ref fI))) (tI : PySem.W.typeIn X.K (.ref fI) = some (.type "function"))
    (F1 : FnOk X.prog X.w X.K X.mg X.base CX k fI fd ps sp) (hr : Room (k + 1) X.A) (hb : Binds X.K fd ps ds) (hd : Vals dvs ds) (hx : Passes CX X (fun _ _ _ => False)) (hg : Gl X x) (hm : X.mg x = some (.ref C)) (ha : PA X (e :: es) ta)
    (hdb : (x == ("__debug__" : Str)) = false := by decide) (he : starEach (e :: es) X.env = (false, eval e X.env) :: starEach es X.env := by rfl) (hpl : (backTo pos (starEach es X.env)).any (·.1) = false := by rfl) :
    L2N.PMk X (.Call (.Name x p) (e :: es) [] pos) (tMkO C sp dvs ta) := by
  intro pins s σ H Q I h
  obtain ⟨nm, q, N, bs, bm, sn, sub, ab, col, dd, k0, k1, k2, k3, k5, hC, hbm⟩ := T.cls
  refine wpAny_Call_Name_kw (ld_glob I hg hm ?_ hdb)
  refine PySem.W.callWith_K (h₀ := X.base) I.ok.mod.kin T.kC (thn (ha.run pos pins s σ H _ I h) fun us s1 ⟨vs, H1, I1, r1, hz, q1⟩ => ⟨I1.kIn, ?_⟩) he hpl
  show wpAny _ _ (call (.ref C) us) _ _ _
  obtain ⟨hp, g, dr, tk, os⟩ := s1
  have hsz : hp.objs.size ≤ hp.objs.size + 1 := Nat.le_succ _
  have hn : H1 (hp.objs.size + 1) = none := I1.hok.fresh hsz
  have hq := q1 (hp.objs.size + 1) hn
  have kk : ∀ b o, hp.get? b = some o → ((hp.push (PySem.W.kdv_tup us)).push (PySem.HandSPX.excO C hp.objs.size)).get? b = some o := fun b o e => Heap.get?_push_of_some _ (Heap.get?_push_of_some _ e)
  have hget : ((hp.push (PySem.W.kdv_tup us)).push (PySem.HandSPX.excO C hp.objs.size)).get? (hp.objs.size + 1) = some (PySem.HandSPX.excO C hp.objs.size) := by heap_get
  have I2 : Inv X pins σ (upd H1 (hp.objs.size + 1) (exo (hp.objs.size + 1) C none)) ⟨(hp.push (PySem.W.kdv_tup us)).push (PySem.HandSPX.excO C hp.objs.size), g, dr, tk, os⟩ :=
    I1.laid (t' := tk) (a := hp.objs.size + 1) (o := exo (hp.objs.size + 1) C none) (h' := (hp.push (PySem.W.kdv_tup us)).push (PySem.HandSPX.excO C hp.objs.size)) kk hsz (exo_ok hget)
  have r2 : Vals (V.ref (hp.objs.size + 1) :: (vs ++ dvs)) (Value.ref (hp.objs.size + 1) :: (us ++ ds)) := .cons rfl (r1.append hd)
  have hl : (Value.ref (hp.objs.size + 1) :: us ++ ds).length = ps.length := by
    have e := r2.length
    rw [F1.len _ _ _ _ hq] at e
    exact e.symm
  have hus : us.length ≤ sizeLine := by
    rw [← Paired.length r1, sizeLine_eq]
    omega
  refine wpAny_call (PySem.HandSPX.call_own F.excBase_ValueError (fun Y => PySem.HandSPX.refsVE_contains Y bm hbm) (I1.kIn _ _ hC) (PySem.W.looks_findIn I1.kIn iC) (fun self => PySem.W.bind_fn I1.kIn self tI) hus
    (codeAny_mono (F1.run _ X.stack _ _ ⟨Value.ref (hp.objs.size + 1) :: us, []⟩ (Value.ref (hp.objs.size + 1) :: (us ++ ds)) _ _ (fun _ _ _ => False) (hr.make C us []) (I2.env0.make C us []) (hb _ (Value.ref (hp.objs.size + 1) :: us) I2.kIn hl) r2 hq) fun r s' hq' => ?_))
  cases r with
  | error er => exact hx pins σ _ _ er s' I2 hq'
  | ok fl =>
    cases fl with
    | ret u =>
      obtain ⟨v, H2, os2, bare2, un2, hok2, rv, ev, d, fs, ea, ed, hd1, q2⟩ := hq'
      subst ev
      obtain ⟨h2, g2, d2, t2, os'⟩ := s'
      exact ⟨rv, mk_endN (raises_own T.exC T.tyC) I1 hsz kk un2 hok2 os2 bare2 ea ed hd1 q2⟩
    | next => exact False.elim hq'
    | brk => exact False.elim hq'
    | cont => exact False.elim hq'
end
/-- a class of exceptions with fields whose __init__'s walk is done -/
structure OexB (P : Program) (w : World) (K : PySem.W.Frag) (mg : Str → Option Value) (base : Heap) (n : Str) (C : Addr) (ns : List Str) : Prop where
  T : OexC K C
  gC : mg n = some (.ref C)
  no : ∀ f ∈ ns, PySem.W.findIn K (.ref C) f = some none
  ex : ∃ (fI : Addr) (fd : FuncData) (ps : List Str), PySem.W.findIn K (.ref C) "__init__" = some (some (.ref fI)) ∧ PySem.W.typeIn K (.ref fI) = some (.type "function") ∧ FnOk P w K mg base (L2N.CX P w) 1 fI fd ps (spX K ns) ∧ Binds K fd ps []
theorem no_nil {K : PySem.W.Frag} {C : Addr} : ∀ f ∈ ([] : List Str), PySem.W.findIn K (.ref C) f = some none := fun f m => by cases m
theorem no_cons {K : PySem.W.Frag} {C : Addr} {g : Str} {ns : List Str} (h : PySem.W.findIn K (.ref C) g = some none) (r : ∀ f ∈ ns, PySem.W.findIn K (.ref C) f = some none) : ∀ f ∈ g :: ns, PySem.W.findIn K (.ref C) f = some none := fun f m => by
  rcases List.mem_cons.mp m with e | m
  · rw [e]; exact h
  · exact r f m
/-- where such a class of the text stands -/
structure HereX (K : PySem.W.Frag) (mg : Str → Option Value) (n q : Str) (C : Addr) (st : Stmt) (ps ns : List Str) : Prop where
  T : OexC K C
  gC : mg n = some (.ref C)
  no : ∀ f ∈ ns, PySem.W.findIn K (.ref C) f = some none
  ex : ∃ (fI : Addr) (fd : FuncData), PySem.W.findIn K (.ref C) "__init__" = some (some (.ref fI)) ∧ PySem.W.typeIn K (.ref fI) = some (.type "function") ∧ L2.Fun K "__init__" q st fI fd ∧ Binds K fd ps []
section
variable {P : Program} {w : World} {K : PySem.W.Frag} {mg : Str → Option Value} {base : Heap} {n q f1 f2 : Str} {st : Stmt} {C : Addr}
theorem oexB1 (W : HereX K mg n q C st ["self", "words", f1] [f1]) (S : FnScope ["self", "words", f1] ["self", "words", f1] (defScope st))
    (hw : ∀ (f : Addr) (cdv : Value) (A : Around) (outer : List Env) (s : Shared) (H : Hp) (E : XK), PSs (bodyX P w K mg base ["self", "words", f1] q st f cdv A outer s H E) (defBody st) (tSeq (tDrop (tVeI K (tCons (tVar 0) (tCons (tVar 1) tNil)))) (tOst K f1 (tVar 0) (tVar 2)))) :
    OexB P w K mg base n C [f1] :=
  let ⟨fI, fd, h1, h2, F, hb⟩ := W.ex
  ⟨W.T, W.gC, W.no, fI, fd, _, h1, h2, oexInit1 F S (hw fI), hb⟩
end
def sRaiseA (c : String) (ns : List String) (f : SA) : SS := fun τ h => (f τ h).fl τ fun ts h1 =>
  match ts with
  | _ :: us => if us.length = ns.length ∧ ns.length ≤ 9 then .exc ⟨c, (ns.zip us).reverse⟩ τ h1 else .no
  | [] => .no
theorem zip_fst : ∀ {ns : List String} {us : List T}, us.length = ns.length → (ns.zip us).map (·.1) = ns ∧ (ns.zip us).map (·.2) = us
  | [], [], _ => ⟨rfl, rfl⟩
  | [], _ :: _, e => by cases e
  | _ :: _, [], e => by cases e
  | n :: ns, u :: us, e => by
    obtain ⟨h1, h2⟩ := zip_fst (ns := ns) (us := us) (by simpa using e)
    exact ⟨by rw [List.zip_cons_cons, List.map_cons, h1], by rw [List.zip_cons_cons, List.map_cons, h2]⟩
theorem zip_fstV : ∀ {ns : List Str} {us : List V}, us.length = ns.length → (ns.zip us).map (·.1) = ns ∧ (ns.zip us).map (·.2) = us
  | [], [], _ => ⟨rfl, rfl⟩
  | [], _ :: _, e => by cases e
  | _ :: _, [], e => by cases e
  | n :: ns, u :: us, e => by
    obtain ⟨h1, h2⟩ := zip_fstV (ns := ns) (us := us) (by simpa using e)
    exact ⟨by rw [List.zip_cons_cons, List.map_cons, h1], by rw [List.zip_cons_cons, List.map_cons, h2]⟩
section
variable {X : Cx} {E : WX} {en : Ent} {rk : Kd} {lin lin' : List Nat} {pos pos' p : Pos} {C : Addr} {a : Expr} {es : List Expr} {fs : SA} {j : Nat}
theorem psb_raiseA {n : String} {ns : List String} (hc : X.calm = true) (tk : L2N.Takes X E) (B : OexB X.prog X.w X.K X.mg X.base (Str.ofString n) C (ns.map Str.ofString)) (hn : ns.isEmpty = false) (hr : Room j X.A) (hk : 2 ≤ j) (hg : Gl X (Str.ofString n)) (ha : PAB X E lin (a :: es) fs)
    (hdb : ((Str.ofString n) == ("__debug__" : Str)) = false := by decide) (he : starEach (a :: es) X.env = (false, eval a X.env) :: starEach es X.env := by rfl) (hpl : (backTo pos' (starEach es X.env)).any (·.1) = false := by rfl) :
    PSB X E en rk lin lin' (.Raise (some (.Call (.Name (Str.ofString n) p) (a :: es) [] pos')) none pos) (sRaiseA n ns fs) := by
  obtain ⟨fI, fd, ps, iC, tI, F1, hb⟩ := B.ex
  refine impS (L2N.ps_raise hc tk (pmk_oexN (dvs := []) B.T iC tI F1 (hr.mono hk) hb .nil (fun pins σ H s e s' I c => tk e s' (L2N.XE.of_call I (fun _ _ _ z => z.elim) c)) hg B.gC ha hdb he hpl)) fun D σ H ⟨G, R, τ, h, f0, o⟩ => ?_
  refine lA.thenS f0 o fun ts vs h1 G1 R1 H1 f1 e1 r1 o1 => ?_
  cases r1 with
  | nil => exact o1.elim
  | @cons t v us ws r0 rr =>
    dsimp only at o1
    split at o1
    · rename_i hl
      have lw : ws.length = ns.length := by rw [← rr.len]; exact hl.1
      refine ⟨by rw [List.length_cons]; omega, fun a0 na => ?_⟩
      rw [List.append_nil]
      refine ⟨a0, C, v, ws, rfl, by rw [List.length_map]; exact lw, B.T, B.no, upd_same, fun dx ndx ne => ?_⟩
      have nd1 : H1 dx = none := by rw [upd_ne ne] at ndx; exact ndx
      refine ⟨rfl, dx, _, upd_same, by rw [upd_ne ne, upd_same], nd1, ?_⟩
      have eH : upd (del (upd (upd (upd H1 a0 (exo a0 C none)) dx (exd dx ((ns.map Str.ofString).zip ws).reverse)) a0 (exo a0 C (some dx))) a0) dx (.xd ((ns.map Str.ofString).zip ws).reverse) = upd H1 dx (.xd ((ns.map Str.ofString).zip ws).reverse) := by
        funext b
        by_cases q1 : b = dx
        · subst q1; rw [upd_same, upd_same]
        · rw [upd_ne q1, upd_ne q1]
          by_cases q2 : b = a0
          · subst q2; rw [del_same, na]
          · rw [del_ne q2, upd_ne q2, upd_ne q1, upd_ne q2]
      rw [eH]
      obtain ⟨G2, f2, s2⟩ := f1.frz
      obtain ⟨g3, e3, n3, m3⟩ := f2.gd.newO (o := .xd ((ns.map Str.ofString).zip ws).reverse) nd1
      have f3 := f2.on g3 e3
      have zt := zip_fst (ns := ns) hl.1
      have zv := zip_fstV (ns := ns.map Str.ofString) (us := ws) (by rw [List.length_map]; exact lw)
      refine o1 G2 R1 _ σ (.ref C) (some dx) f3 s2 (List.prefix_refl _) ⟨C, B.gC, rfl, ?_⟩
      have hne : (ns.zip us).reverse ≠ [] := fun z => by
        have l1 := congrArg List.length (List.reverse_eq_nil_iff.mp z)
        rw [List.length_zip, hl.1, Nat.min_self] at l1
        have : ns = [] := List.length_eq_zero_iff.mp l1
        rw [this] at hn; cases hn
      show (match (ns.zip us).reverse with | [] => some dx = none | l => _)
      cases el : (ns.zip us).reverse with
      | nil => exact absurd el hne
      | cons y l =>
        dsimp only
        rw [← el]
        refine ⟨dx, _, rfl, upd_same, m3, ?_, ?_⟩
        · have em : (ns.zip us).map (fun p => Str.ofString p.1) = ns.map Str.ofString := by
            have := List.map_map (l := ns.zip us) (f := fun q : String × T => q.1) (g := Str.ofString)
            rw [zt.1] at this
            exact this.symm
          rw [List.map_reverse, List.map_reverse, zv.1, em]
        · rw [List.map_reverse, List.map_reverse, zv.2, zt.2]
          exact (rr.mono s2 (List.prefix_refl _)).reverse
    · exact o1.elim
end
/-- in the slot i the exception at a, its dict at d, its fields args -/
def xphi (K : PySem.W.Frag) (i : Nat) (a : Addr) (d : Option Addr) (args : List (String × T)) (σ : L2.St) (G : Hp) (R : List Addr) (H : Hp) : Prop :=
  σ[i]? = some (some (.ref a)) ∧ (args ≠ [] → ∃ dd fs, d = some dd ∧ H dd = some (.xd fs) ∧ dd ∉ R ∧ fs.map (·.1) = args.map (fun p => Str.ofString p.1) ∧ RpL K G R (args.map (·.2)) (fs.map (·.2)))
theorem xphi.ext {K : PySem.W.Frag} {i : Nat} {a : Addr} {d : Option Addr} {args : List (String × T)} {σ : L2.St} {G G' : Hp} {R R' : List Addr} {H H' : Hp} (e : Ext G R H G' R' H') (p : xphi K i a d args σ G R H) : xphi K i a d args σ G' R' H' :=
  ⟨p.1, fun n => by
    obtain ⟨dd, fs, h1, h2, h3, h4, h5⟩ := p.2 n
    refine ⟨dd, fs, h1, e.kept dd _ h2 h3, fun m => ?_, h4, e.rpl h5⟩
    rcases e.rnew dd m with m | m
    · exact h3 m
    · rw [h2] at m; cases m⟩
structure XI where
  i : Nat
  a : Addr
  d : Option Addr
  args : List (String × T)
abbrev XI.at (x : XI) (K : PySem.W.Frag) := xphi K x.i x.a x.d x.args
def lEx (K : PySem.W.Frag) (mg : Str → Option Value) (x : XI) (lin : List Nat) (kd : Kd) (f : SE) : TE := fun σ H Q =>
  ∃ G R τ h N0, Gd K G R H h ∧ Fr K lin G R H τ σ N0 ∧ x.at K σ G R H ∧ Out K mg (fun _ _ _ => False) G R H (f τ h) fun t G' R' H' => ∀ v, Res K kd H t v G' R' H' → Q v H'
def lAx (K : PySem.W.Frag) (mg : Str → Option Value) (x : XI) (lin : List Nat) (f : SA) : TA := fun σ H Q =>
  ∃ G R τ h N0, Gd K G R H h ∧ Fr K lin G R H τ σ N0 ∧ x.at K σ G R H ∧ Out K mg (fun _ _ _ => False) G R H (f τ h) fun ts G' R' H' => ∀ vs, RpL K G' R' ts vs → Q vs H'
def lBx (K : PySem.W.Frag) (mg : Str → Option Value) (x : XI) (lin : List Nat) (f : SB) : TT := fun σ H Q =>
  ∃ G R τ h N0, Gd K G R H h ∧ Fr K lin G R H τ σ N0 ∧ x.at K σ G R H ∧ Out K mg (fun _ _ _ => False) G R H (f τ h) fun b G' R' H' => Q b H'
def PEx (X : Cx) (x : XI) (lin : List Nat) (kd : Kd) (e : Expr) (f : SE) : Prop := PE X e (lEx X.K X.mg x lin kd f)
def PAx (X : Cx) (x : XI) (lin : List Nat) (es : List Expr) (f : SA) : Prop := PA X es (lAx X.K X.mg x lin f)
def PTx (X : Cx) (x : XI) (lin : List Nat) (e : Expr) (f : SB) : Prop := PT X e (lBx X.K X.mg x lin f)
def PWx (X : Cx) (x : XI) (lin : List Nat) (e : Expr) (f : SB) : Prop := PW X e (lBx X.K X.mg x lin f)
def OutSx (K : PySem.W.Frag) (x : XI) (en : Ent) (rk : Kd) (lin' : List Nat) (G : Hp) (R : List Addr) (r : Fl) (D : Ends) : Prop :=
  match r with
  | .nx τ' h' => ∀ G' R' H' σ', FrS K en lin' G' R' H' h' τ' σ' → Same G G' → R <+: R' → x.at K σ' G' R' H' → D.nx σ' H'
  | .rt t h' => ∀ G' R' H' v, Gd K G' R' H' h' → Ext en.G en.R en.H G' R' H' → Res K rk en.H t v G' R' H' → D.rt v H'
  | _ => False
def lSx (K : PySem.W.Frag) (x : XI) (en : Ent) (rk : Kd) (lin lin' : List Nat) (g : SS) : TS := fun D σ H =>
  ∃ G R τ h, FrS K en lin G R H h τ σ ∧ x.at K σ G R H ∧ OutSx K x en rk lin' G R (g τ h) D
def PSx (X : Cx) (x : XI) (en : Ent) (rk : Kd) (lin lin' : List Nat) (st : Stmt) (g : SS) : Prop := PS X st (lSx X.K x en rk lin lin' g)
def PSsx (X : Cx) (x : XI) (en : Ent) (rk : Kd) (lin lin' : List Nat) (st : List Stmt) (g : SS) : Prop := PSs X st (lSx X.K x en rk lin lin' g)
section
variable {K : PySem.W.Frag} {mg : Str → Option Value} {x : XI} {en : Ent} {rk kd : Kd} {lin lin' : List Nat} {G G' : Hp} {R R' : List Addr} {H : Hp} {h : IH} {τ : Ev} {σ : L2.St} {N0 : Addr → Prop} {α : Type} {P : α → Hp → List Addr → Hp → Prop} {D : Ends}
theorem lEx.then {f : SE} {k : T → IH → Rs α} {Q : VK} (g : Gd K G R H h) (fr : Fr K lin G R H τ σ N0) (p : x.at K σ G R H) (o : Out K mg (fun _ _ _ => False) G R H ((f τ h).bind k) P)
    (hq : ∀ t v h1 G1 R1 H1, Gd K G1 R1 H1 h1 → Ext G R H G1 R1 H1 → Fr K lin G1 R1 H1 τ σ N0 → x.at K σ G1 R1 H1 → Res K kd H t v G1 R1 H1 → Out K mg (fun _ _ _ => False) G1 R1 H1 (k t h1) P → Q v H1) : lEx K mg x lin kd f σ H Q := by
  refine ⟨G, R, τ, h, N0, g, fr, p, ?_⟩
  cases e : f τ h with
  | ok t h1 =>
    rw [e] at o
    exact fun G1 R1 H1 g1 e1 v r => hq t v h1 G1 R1 H1 g1 e1 (fr.ext e1) (p.ext e1) r (Out.on (h := h) g e1 o)
  | exc x h1 => rw [e] at o; exact o
  | no => rw [e] at o; exact o
theorem lAx.then {f : SA} {k : List T → IH → Rs α} {Q : List V → Hp → Prop} (g : Gd K G R H h) (fr : Fr K lin G R H τ σ N0) (p : x.at K σ G R H) (o : Out K mg (fun _ _ _ => False) G R H ((f τ h).bind k) P)
    (hq : ∀ ts vs h1 G1 R1 H1, Gd K G1 R1 H1 h1 → Ext G R H G1 R1 H1 → Fr K lin G1 R1 H1 τ σ N0 → x.at K σ G1 R1 H1 → RpL K G1 R1 ts vs → Out K mg (fun _ _ _ => False) G1 R1 H1 (k ts h1) P → Q vs H1) : lAx K mg x lin f σ H Q := by
  refine ⟨G, R, τ, h, N0, g, fr, p, ?_⟩
  cases e : f τ h with
  | ok t h1 =>
    rw [e] at o
    exact fun G1 R1 H1 g1 e1 v r => hq t v h1 G1 R1 H1 g1 e1 (fr.ext e1) (p.ext e1) r (Out.on (h := h) g e1 o)
  | exc x h1 => rw [e] at o; exact o
  | no => rw [e] at o; exact o
theorem lBx.then {f : SB} {k : Bool → IH → Rs α} {Q : Bool → Hp → Prop} (g : Gd K G R H h) (fr : Fr K lin G R H τ σ N0) (p : x.at K σ G R H) (o : Out K mg (fun _ _ _ => False) G R H ((f τ h).bind k) P)
    (hq : ∀ b h1 G1 R1 H1, Gd K G1 R1 H1 h1 → Ext G R H G1 R1 H1 → Fr K lin G1 R1 H1 τ σ N0 → x.at K σ G1 R1 H1 → Out K mg (fun _ _ _ => False) G1 R1 H1 (k b h1) P → Q b H1) : lBx K mg x lin f σ H Q := by
  refine ⟨G, R, τ, h, N0, g, fr, p, ?_⟩
  cases e : f τ h with
  | ok t h1 =>
    rw [e] at o
    exact fun G1 R1 H1 g1 e1 => hq t h1 G1 R1 H1 g1 e1 (fr.ext e1) (p.ext e1) (Out.on (h := h) g e1 o)
  | exc x h1 => rw [e] at o; exact o
  | no => rw [e] at o; exact o
theorem OutSx.on {r : Fl} (s : Same G G') (p : R <+: R') (o : OutSx K x en rk lin' G R r D) : OutSx K x en rk lin' G' R' r D := by
  cases r with
  | nx τ' h' => exact fun G2 R2 H2 σ2 f s2 p2 => o G2 R2 H2 σ2 f (same_trans s s2) (p.trans p2)
  | rt t h' => exact o
  | exc x τ' h' => exact o
  | no => exact o
theorem lEx.thenS {f : SE} {k : T → IH → Fl} {Q : VK} (fs : FrS K en lin G R H h τ σ) (p : x.at K σ G R H) (o : OutSx K x en rk lin' G R ((f τ h).fl τ k) D)
    (hq : ∀ t v h1 G1 R1 H1, FrS K en lin G1 R1 H1 h1 τ σ → Ext G R H G1 R1 H1 → x.at K σ G1 R1 H1 → Res K kd H t v G1 R1 H1 → OutSx K x en rk lin' G1 R1 (k t h1) D → Q v H1) : lEx K mg x lin kd f σ H Q := by
  refine ⟨G, R, τ, h, _, fs.gd, fs.fr, p, ?_⟩
  cases e : f τ h with
  | ok t h1 =>
    rw [e] at o
    exact fun G1 R1 H1 g1 e1 v r => hq t v h1 G1 R1 H1 (fs.on g1 e1) e1 (p.ext e1) r (OutSx.on e1.same e1.pre o)
  | exc x h1 => rw [e] at o; exact o.elim
  | no => rw [e] at o; exact o
theorem lBx.thenS {f : SB} {k : Bool → IH → Fl} {Q : Bool → Hp → Prop} (fs : FrS K en lin G R H h τ σ) (p : x.at K σ G R H) (o : OutSx K x en rk lin' G R ((f τ h).fl τ k) D)
    (hq : ∀ b h1 G1 R1 H1, FrS K en lin G1 R1 H1 h1 τ σ → Ext G R H G1 R1 H1 → x.at K σ G1 R1 H1 → OutSx K x en rk lin' G1 R1 (k b h1) D → Q b H1) : lBx K mg x lin f σ H Q := by
  refine ⟨G, R, τ, h, _, fs.gd, fs.fr, p, ?_⟩
  cases e : f τ h with
  | ok t h1 =>
    rw [e] at o
    exact fun G1 R1 H1 g1 e1 => hq t h1 G1 R1 H1 (fs.on g1 e1) e1 (p.ext e1) (OutSx.on e1.same e1.pre o)
  | exc x h1 => rw [e] at o; exact o.elim
  | no => rw [e] at o; exact o
end
section
variable {X : Cx} {x : XI} {en : Ent} {rk kd k1 k2 : Kd} {lin lin1 lin' : List Nat} {e a b c : Expr} {es rest : List Expr} {fa fb fc : SE} {fs : SA} {sa sb sc : SB} {pos pos' p : Pos} {st : Stmt} {sts a' b' : List Stmt} {f g : SS}
theorem pex_of (h : PEB X EF lin kd e fa) : PEx X x lin kd e fa := impE h fun σ H Q ⟨G, R, τ, h, N0, gd, fr, p, o⟩ => ⟨G, R, τ, h, N0, gd, fr, o⟩
end
end GB
namespace GB
open PySem PySem.Spec PyProof.Rows L2
section
variable {X : Cx} {x : XI} {en : Ent} {rk kd k1 k2 k3 : Kd} {lin lin1 lin' : List Nat} {e a b c : Expr} {es rest : List Expr} {fa fb fc : SE} {fs : SA} {sa sb sc : SB} {pos pos' p : Pos} {st : Stmt} {sts a' b' : List Stmt} {f g : SS}
theorem lBx_any {f : SE} (σ : L2.St) (H : Hp) (Q : Bool → Hp → Prop) (q : lBx X.K X.mg x lin (sOf f) σ H Q) : lEx X.K X.mg x lin kd f σ H (fun v H' => ∃ k, v = .bl k ∧ Q k H') := by
  obtain ⟨G, R, τ, h, N0, gd, fr, p, o⟩ := q
  refine lEx.then gd fr p o fun t v h1 G1 R1 H1 g1 e1 f1 p1 r1 o1 => ?_
  split at o1
  · rename_i b
    exact ⟨b, Live.bl (Res.live r1), o1 G1 R1 H1 g1 .refl⟩
  · exact o1.elim
theorem ptx_val (ha : PEx X x lin kd a fa) (he : ∀ whole, isTrue a X.env whole = (do let v ← whole; standAt a.pos; holding [v] (truthy v)) := by intro _; rfl) : PTx X x lin a (sOf fa) :=
  impT (pt_val ha he) fun σ H Q h => lBx_any σ H Q h
theorem pwx_or1 (ha : PTx X x lin a sa) : PWx X x lin (.BoolOp .Or [a] pos) sa := pw_or1 ha
theorem pwx_or (ha : PTx X x lin a sa) (hb : PWx X x lin (.BoolOp .Or (b :: rest) pos) sb) : PWx X x lin (.BoolOp .Or (a :: b :: rest) pos) (sOr sa sb) := impW (pw_or ha hb) fun σ H Q ⟨G, R, τ, h, N0, gd, fr, p, o⟩ =>
  lBx.then gd fr p o fun z h1 G1 R1 H1 g1 e1 f1 p1 o1 => by
    cases z with
    | false => exact ⟨G1, R1, τ, h1, N0, g1, f1, p1, o1⟩
    | true => exact o1 G1 R1 H1 g1 .refl
theorem pwx_t (h : PWx X x lin a sa) : PTx X x lin a sa := h.pt
theorem ptx_not (ha : PTx X x lin a sa) : PTx X x lin (.UnaryOp .Not a pos) (sNot sa) := impT (pt_not ha) fun σ H Q ⟨G, R, τ, h, N0, gd, fr, p, o⟩ =>
  lBx.then gd fr p o fun z h1 G1 R1 H1 g1 e1 f1 p1 o1 => o1 G1 R1 H1 g1 .refl
theorem pax_nil : PAx X x lin [] aNil := impA pa_nil fun σ H Q ⟨G, R, τ, h, N0, g, fr, p, o⟩ => o G R H g .refl [] .nil
theorem pax_cons (ha : PEx X x lin .fz a fa) (hr : PAx X x lin es fs) (hs : starEach (a :: es) X.env = (false, eval a X.env) :: starEach es X.env := by rfl) : PAx X x lin (a :: es) (aCons fa fs) := impA (pa_cons ha hr hs) fun σ H Q ⟨G, R, τ, h, N0, gd, fr, p, o⟩ =>
  lEx.then gd fr p o fun t v h1 G1 R1 H1 g1 e1 f1 p1 r1 o1 => lAx.then g1 f1 p1 o1 fun ts vs h2 G2 R2 H2 g2 e2 f2 p2 r2 o2 => o2 G2 R2 H2 g2 .refl _ (.cons (e2.rp r1) r2)
theorem psx_ret (ha : PEx X x lin kd a fa) (hk : ∀ K H t v G R H', Res K kd H t v G R H' → Res K rk H t v G R H') : PSx X x en rk lin lin' (.Return (some a) pos) (sRet fa) := impS (ps_ret ha) fun D σ H ⟨G, R, τ, h, fs, p, o⟩ => by
  refine lEx.thenS fs p o fun t v h1 G1 R1 H1 f1 e1 p1 r1 o1 => ?_
  obtain ⟨h0, g0⟩ := fs.gd0
  exact o1 G1 R1 H1 v f1.gd f1.ext (Res.back fs.gd fs.ext (hk _ _ _ _ _ _ _ r1))
theorem psx_if (hc : PTx X x lin c sc) (ha : PSsx X x en rk lin lin' a' f) (hb : PSsx X x en rk lin lin' b' g) : PSx X x en rk lin lin' (.If c a' b' pos) (sIf sc f g) := impS (ps_if hc ha hb) fun D σ H ⟨G, R, τ, h, fs, p, o⟩ => by
  refine lBx.thenS fs p o fun z h1 G1 R1 H1 f1 e1 p1 o1 => ?_
  cases z with
  | true => exact ⟨G1, R1, τ, h1, f1, p1, o1⟩
  | false => exact ⟨G1, R1, τ, h1, f1, p1, o1⟩
theorem XI.set {K : PySem.W.Frag} {i : Nat} {v : V} {σ : L2.St} {G : Hp} {R : List Addr} {H : Hp} (hx : i ≠ x.i) (p : x.at K σ G R H) : x.at K (σ.set i (some v)) G R H :=
  ⟨by rw [List.getElem?_set_ne hx]; exact p.1, p.2⟩
theorem pssx_nil : PSsx X x en rk lin lin [] sSkip := impSs pss_nil fun D σ H ⟨G, R, τ, h, fs, p, o⟩ => o G R H σ fs (fun _ _ e => e) (List.prefix_refl _) p
theorem pssx_cons (h1 : PSx X x en rk lin lin1 st f) (h2 : PSsx X x en rk lin1 lin' sts g) : PSsx X x en rk lin lin' (st :: sts) (sSeq f g) := impSs (pss_cons h1 h2) fun D σ H ⟨G, R, τ, h, fs, p, o⟩ => by
  refine ⟨G, R, τ, h, fs, p, ?_⟩
  unfold sSeq at o
  cases e : f τ h with
  | nx τ' h' =>
    rw [e] at o
    exact fun G' R' H' σ' fs' s' p' q => ⟨G', R', τ', h', fs', q, OutSx.on s' p' o⟩
  | rt t h' => rw [e] at o; exact o
  | exc x τ' h' => rw [e] at o; exact o
  | no => rw [e] at o; exact o
theorem pssx_one (h1 : PSx X x en rk lin lin' st f) : PSsx X x en rk lin lin' [st] f := pss_one h1
end
def eX0 (args : List (String × T)) (f : String) : SE := fun _ h =>
  match args with
  | (g, t) :: _ => if g = f then .ok t h else .no
  | [] => .no
section
variable {X : Cx} {x : XI} {i : Nat} {a D C : Addr} {d : Option Addr} {args : List (String × T)} {oe : Obj} {pn : List (Addr × Obj)} {lin : List Nat} {n m : Str} {p p1 p2 pos : Pos} {es : List Expr} {vs : List V} {b : Bool} {us : List Value}
/-- where the exception's dict lies -/
def dictAt (d : Option Addr) (H : Hp) : Prop := d = none ∨ ∃ dd fs, d = some dd ∧ H dd = some (.xd fs)
theorem exc_inst {s : Shared} {σ : L2.St} {H : Hp} {pins : List (Addr × Obj)} (I : L2.Inv (X.suite a ((a, oe) :: pn)) pins σ H s) (hz : L2N.Zn (.ref D) d oe) (hf : ∃ vs, oe.data = .fields vs) (hd : dictAt d H) : ∃ od, PySem.W.InstAt s.heap a oe D od := by
  obtain ⟨hget, _⟩ := I.pin (a, oe) (List.mem_append.mpr (.inl List.mem_cons_self))
  obtain ⟨vs, hv⟩ := hf
  rcases hd with hd | ⟨dd, fs, hd, ea⟩
  · exact ⟨none, hget, hz.1, by unfold PySem.W.notCls; rw [hv] <;> rfl, by rw [hz.2.1, hd]; trivial⟩
  · have hx : ObjOk X.prog X.w H s.heap dd (.xd fs) := I.hok dd _ ea
    obtain ⟨mA, hns, hr⟩ := hx
    obtain ⟨od, ho, hl⟩ := lookIn_ns hns
    exact ⟨some od, hget, hz.1, by unfold PySem.W.notCls; rw [hv] <;> rfl, by rw [hz.2.1, hd]; exact ho⟩
theorem xphi.dict {K : PySem.W.Frag} {σ : L2.St} {G : Hp} {R : List Addr} {H : Hp} (hn : x.args = [] → x.d = none) (p : x.at K σ G R H) : dictAt x.d H := by
  by_cases q : x.args = []
  · exact .inl (hn q)
  · obtain ⟨dd, fs, h1, h2, _⟩ := p.2 q
    exact .inr ⟨dd, fs, h1, h2⟩
theorem call_isEx (T : ExcC X.K D) (hz : L2N.Zn (.ref D) d oe) (hf : ∃ vs, oe.data = .fields vs) : CallR (X.suite a ((a, oe) :: pn)) (.builtin "isinstance") (fun xs H Q => dictAt d H ∧ rIsE X.K D a xs H Q) := by
  intro pins s σ H xs us Q I r h
  obtain ⟨hd, c, cv, b, rfl, hcv, e, q⟩ := h
  cases r with
  | cons rx rr =>
    cases rr with
    | cons rt rr =>
      cases rr
      cases rx
      have ec := hcv _ rt
      subst ec
      obtain ⟨od, J⟩ := exc_inst I hz hf hd
      exact PySem.W.kia_one (PySem.W.kitx_exc (by obtain ⟨cd, hc, _⟩ := PySem.W.any_some T.hd; rw [hc]; rfl) T.hg T.hk T.hs T.ha T.hn T.ht T.hm) I.kIn J e (fun z => nomatch z) fun tk => ⟨.bl b, H, I.kept (t' := tk) fun _ _ z => z, rfl, q⟩
theorem call_isETx (T : ExcC X.K D) (hz : L2N.Zn (.ref D) d oe) (hf : ∃ vs, oe.data = .fields vs) : CallR (X.suite a ((a, oe) :: pn)) (.builtin "isinstance") (fun xs H Q => dictAt d H ∧ ∃ (tp : Addr) (cs : List V) (ws : List Value) (b : Bool), xs = [.ref a, .ref tp] ∧ H tp = some (.tup cs) ∧ ClsL cs ws ∧ PySem.W.kitAny X.K (.ref D) ws = some b ∧ Q (.bl b) H) := by
  intro pins s σ H xs us Q I r h
  obtain ⟨hdd, tp, cs, ws, b, rfl, hT, k, e, q⟩ := h
  cases r with
  | cons rx rr =>
    cases rr with
    | cons rt rr =>
      cases rr
      cases rx
      cases rt
      obtain ⟨od, J⟩ := exc_inst I hz hf hdd
      obtain ⟨_, its, rv, o, h1, h2, n, h3⟩ := (show ObjOk X.prog X.w H s.heap tp (.tup cs) from I.hok tp _ hT)
      have e3 := k.all rv
      subst e3
      obtain ⟨oc, od', dt, sl⟩ := o
      simp only at h2 h3
      subst h2 h3
      exact PySem.W.kia_tup (PySem.W.kitx_exc (by obtain ⟨cd, hc, _⟩ := PySem.W.any_some T.hd; rw [hc]; rfl) T.hg T.hk T.hs T.ha T.hn T.ht T.hm) I.kIn J h1 e (fun z => nomatch z) fun tk => ⟨.bl b, H, I.kept (t' := tk) fun _ _ z => z, rfl, q⟩
theorem pex_isE (T : ExcC X.K D) (hz : L2N.Zn (.ref D) d oe) (hf : ∃ vs, oe.data = .fields vs) (hna : args = [] → d = none) (hg : Gl X "isinstance") (hm : X.mg "isinstance" = none) (hN : X.N[i]? = some n) (hv : Vis X.env.scope n) (hgm : Gl X m) (gm : X.mg m = some (.ref C)) (e : PySem.W.kitOne X.K (.ref D) (.ref C) = some b)
    (hd : (n == ("__debug__" : Str)) = false := by decide) (hcd : (n == ("__classdict__" : Str)) = false := by decide) (hdm : (m == ("__debug__" : Str)) = false := by decide)
    (hs : starEach [.Name n p1, .Name m p2] X.env = (false, eval (.Name n p1) X.env) :: starEach [.Name m p2] X.env := by rfl) (hs2 : starEach [.Name m p2] X.env = (false, eval (.Name m p2) X.env) :: starEach [] X.env := by rfl) (hpl : (backTo pos (starEach [.Name m p2] X.env)).any (·.1) = false := by rfl) :
    PEx (X.suite a ((a, oe) :: pn)) ⟨i, a, d, args⟩ lin .fz (.Call (.Name "isinstance" p) [.Name n p1, .Name m p2] [] pos) (eC (.bl b)) :=
  impE (pe_callB (call_isEx T hz hf) hg hm PyProof.Rows.boot_isinstance (pa_cons (pe_var (X := X.suite a ((a, oe) :: pn)) hN hv hd hcd) (pa_cons (pe_glob (X := X.suite a ((a, oe) :: pn)) (v := .ref C) hgm gm rfl hdm) pa_nil hs2) hs) (by decide) (by decide) hs hpl) fun σ H Q ⟨G, R, τ, h, N0, gd, fr, hp, o⟩ =>
    ⟨.ref a, hp.1, xphi.dict (x := ⟨i, a, d, args⟩) hna hp, .ref C, .ref C, b, rfl, fun u r => r, e, o G R H gd .refl _ (.bl b)⟩
theorem pex_isV {t : String} (T : ExcC X.K D) (hz : L2N.Zn (.ref D) d oe) (hf : ∃ vs, oe.data = .fields vs) (hna : args = [] → d = none) (hg : Gl X "isinstance") (hm : X.mg "isinstance" = none) (hN : X.N[i]? = some n) (hv : Vis X.env.scope n) (hgm : Gl X m) (gm : X.mg m = none) (hb : bootBuiltins m = some (.type t)) (e : PySem.W.kitOne X.K (.ref D) (.type t) = some b)
    (hd : (n == ("__debug__" : Str)) = false := by decide) (hcd : (n == ("__classdict__" : Str)) = false := by decide) (hnm : m ≠ "__name__" := by decide) (hdm : (m == ("__debug__" : Str)) = false := by decide)
    (hs : starEach [.Name n p1, .Name m p2] X.env = (false, eval (.Name n p1) X.env) :: starEach [.Name m p2] X.env := by rfl) (hs2 : starEach [.Name m p2] X.env = (false, eval (.Name m p2) X.env) :: starEach [] X.env := by rfl) (hpl : (backTo pos (starEach [.Name m p2] X.env)).any (·.1) = false := by rfl) :
    PEx (X.suite a ((a, oe) :: pn)) ⟨i, a, d, args⟩ lin .fz (.Call (.Name "isinstance" p) [.Name n p1, .Name m p2] [] pos) (eC (.bl b)) :=
  impE (pe_callB (call_isEx T hz hf) hg hm PyProof.Rows.boot_isinstance (pa_cons (pe_var (X := X.suite a ((a, oe) :: pn)) hN hv hd hcd) (pa_cons (pe_bltn (X := X.suite a ((a, oe) :: pn)) (v := .ty t) hgm gm hb rfl hnm hdm) pa_nil hs2) hs) (by decide) (by decide) hs hpl) fun σ H Q ⟨G, R, τ, h, N0, gd, fr, hp, o⟩ =>
    ⟨.ref a, hp.1, xphi.dict (x := ⟨i, a, d, args⟩) hna hp, .ty t, .type t, b, rfl, fun u r => r, e, o G R H gd .refl _ (.bl b)⟩
theorem pex_isT {x1 : Nat} {p3 : Pos} (T : ExcC X.K D) (hz : L2N.Zn (.ref D) d oe) (hf : ∃ vs, oe.data = .fields vs) (hna : args = [] → d = none) (hg : Gl X "isinstance") (hm : X.mg "isinstance" = none) (hN : X.N[i]? = some n) (hv : Vis X.env.scope n) (ht : PA (X.suite a ((a, oe) :: pn)) es (tCs vs)) (cl : ClsL vs us) (e : PySem.W.kitAny X.K (.ref D) us = some b) (hl : vs.length ≤ 1000)
    (hd : (n == ("__debug__" : Str)) = false := by decide) (hcd : (n == ("__classdict__" : Str)) = false := by decide)
    (hs : starEach [.Name n p1, .Tuple es x1 p3] X.env = (false, eval (.Name n p1) X.env) :: starEach [.Tuple es x1 p3] X.env := by rfl) (hs2 : starEach [.Tuple es x1 p3] X.env = (false, eval (.Tuple es x1 p3) X.env) :: starEach [] X.env := by rfl) (hpl : (backTo pos (starEach [.Tuple es x1 p3] X.env)).any (·.1) = false := by rfl) :
    PEx (X.suite a ((a, oe) :: pn)) ⟨i, a, d, args⟩ lin .fz (.Call (.Name "isinstance" p) [.Name n p1, .Tuple es x1 p3] [] pos) (eC (.bl b)) :=
  impE (pe_callB (call_isETx T hz hf) hg hm PyProof.Rows.boot_isinstance (pa_cons (pe_var (X := X.suite a ((a, oe) :: pn)) hN hv hd hcd) (pa_cons (pe_tup ht) pa_nil hs2) hs) (by decide) (by decide) hs hpl) fun σ H Q ⟨G, R, τ, h, N0, gd, fr, hp, o⟩ => by
    refine ⟨.ref a, hp.1, tCs_go (P := fun ws H' => ws = vs ∧ H' = H) ⟨rfl, rfl⟩ ?_⟩
    rintro ws H' ⟨e1, e2⟩
    rw [e1, e2]
    have z : (1000 : Nat) ≤ sizeLine := by decide
    refine ⟨by omega, fun tp htp => ?_⟩
    obtain ⟨g2, e2⟩ := gd.newG (o := .tup vs) htp
    refine ⟨?_, tp, vs, us, b, rfl, upd_same, cl, e, o _ _ _ g2 e2 _ (.bl b)⟩
    exact xphi.dict (x := ⟨i, a, d, args⟩) hna (hp.ext e2)
theorem pex_x0 {f : String} (T : XfC X.K D) (hno : PySem.W.findIn X.K (.ref D) (Str.ofString f) = some none) (hz : L2N.Zn (.ref D) d oe) (hf : ∃ vs, oe.data = .fields vs) (hN : X.N[i]? = some n) (hv : Vis X.env.scope n)
    (hd : (n == ("__debug__" : Str)) = false := by decide) (hcd : (n == ("__classdict__" : Str)) = false := by decide) (hb : attributeBase (.Name n p1) (Str.ofString f) X.env (eval (.Name n p1) X.env) = eval (.Name n p1) X.env := by rfl) :
    PEx (X.suite a ((a, oe) :: pn)) ⟨i, a, d, args⟩ lin .fz (.Attribute (.Name n p1) (Str.ofString f) pos) (eX0 args f) :=
  impE (pe_xf T hno hz.zc hf (pe_var (X := X.suite a ((a, oe) :: pn)) hN hv hd hcd) hb) fun σ H Q ⟨G, R, τ, h, N0, gd, fr, hp, o⟩ => by
    unfold eX0 at o
    cases ea : args with
    | nil => rw [ea] at o; exact o.elim
    | cons y l =>
      obtain ⟨g, t⟩ := y
      rw [ea] at o
      have o : Out X.K X.mg (fun _ _ _ => False) G R H (if g = f then Rs.ok t h else .no) (fun t G' R' H' => ∀ v, Res X.K .fz H t v G' R' H' → Q v H') := o
      by_cases hgf : g = f
      · subst hgf
        rw [if_pos rfl] at o
        obtain ⟨dd, fs, h1, h2, h3, h4, h5⟩ := hp.2 (by rw [ea]; exact fun z => nomatch z)
        rw [ea] at h4 h5
        cases fs with
        | nil => cases h4
        | cons z fs =>
          obtain ⟨k, v⟩ := z
          simp only [List.map_cons] at h4 h5
          cases h5 with
          | cons rv _ =>
            have hk : k = Str.ofString g := (List.cons.inj h4).1
            subst hk
            exact ⟨.ref a, hp.1, rfl, rfl, dd, _, v, h1, h2, by simp [List.lookup], o G R H gd .refl v rv⟩
      · rw [if_neg hgf] at o; exact o.elim
end
abbrev STb := List (String × (List (String × T) → SS))
def sTryM (tb : STb) (i : Nat) (f : SS) : SS := fun τ h =>
  match f τ h with
  | .exc y τ' h' => match tb.lookup y.name with
    | some su => if i < τ'.length then
        match su y.args (τ'.set i none) h' with
        | .rt t h2 => .rt t h2
        | .nx τ2 h2 => .nx (τ2.set i none) h2
        | _ => .no
      else .no
    | none => .no
  | r => r
/-- a class and its suite -/
structure SuB (X : Cx) (en : Ent) (rk : Kd) (i : Nat) (Cc : Addr) (sts : List Stmt) (n : String) (su : List (String × T) → SS) : Prop where
  ex : ∃ D, X.mg (Str.ofString n) = some (.ref D) ∧ PySem.W.exmOne X.K (.ref D) (.ref Cc) = some true ∧ ∀ (a : Addr) (oe : Obj) (d : Option Addr) (args : List (String × T)) (pn : List (Addr × Obj)), L2N.Zn (.ref D) d oe → (∃ vs, oe.data = .fields vs) → (args = [] → d = none) →
    PSsx (X.suite a ((a, oe) :: pn)) ⟨i, a, d, args⟩ en rk [] [] sts (su args)
def SuBs (X : Cx) (en : Ent) (rk : Kd) (i : Nat) (Cc : Addr) (sts : List Stmt) (tb : STb) : Prop := ∀ n su, tb.lookup n = some su → SuB X en rk i Cc sts n su
section
variable {X : Cx} {E : WX} {en : Ent} {rk : Kd} {i : Nat} {c ev : Str} {Cc D : Addr} {sts body suite : List Stmt} {b₀ : Stmt} {np pos pos' : Pos} {f : SS} {n : String} {su : List (String × T) → SS} {tb : STb} {k : Nat}
theorem subs_nil : SuBs X en rk i Cc sts [] := fun n su e => by cases e
theorem subs_cons (g : X.mg (Str.ofString n) = some (.ref D)) (ex : PySem.W.exmOne X.K (.ref D) (.ref Cc) = some true)
    (h : ∀ (a : Addr) (oe : Obj) (d : Option Addr) (args : List (String × T)) (pn : List (Addr × Obj)), L2N.Zn (.ref D) d oe → (∃ vs, oe.data = .fields vs) → (args = [] → d = none) → PSsx (X.suite a ((a, oe) :: pn)) ⟨i, a, d, args⟩ en rk [] [] sts (su args))
    (r : SuBs X en rk i Cc sts tb) : SuBs X en rk i Cc sts ((n, su) :: tb) := fun m s2 e => by
  by_cases q : m = n
  · subst q
    rw [List.lookup_cons_self] at e
    cases e
    exact ⟨D, g, ex, h⟩
  · have hb : (m == n) = false := beq_eq_false_iff_ne.mpr q
    simp only [List.lookup, hb] at e
    exact r m s2 e
theorem psb_tryM (hx : Hx X k E) (hN : X.N.Nodup) (hi : X.N[i]? = some ev) (hgl : Gl X c) (gc : X.mg c = some (.ref Cc))
    (hb : ∀ (W : WX) (pn : List (Addr × Obj)) (xe : Value → Shared → Prop), Hx (X.tr pn xe) k W → PSsB (X.tr pn xe) W en rk [] [] body f)
    (hsu : SuBs X en rk i Cc (b₀ :: suite) tb)
    (hs : X.stack = X.env :: X.outer := by rfl) (hf : X.env.frame = some X.env.locals := by rfl) (hln : X.env.kindOf ev = some .local := by rfl) (hdb : (c == ("__debug__" : Str)) = false := by decide) :
    PSB X E en rk [] [] (.Try body [.ExceptHandler (some (.Name c np)) (some ev) (b₀ :: suite) pos'] [] [] pos) (sTryM tb i f) :=
  impS (L2N.ps_try_as (tb := fun W => lS X.K X.mg W en rk [] [] f) (ts := fun a cls d D' σ H => ∃ n su args D, tb.lookup n = some su ∧ X.mg (Str.ofString n) = some (.ref D) ∧ cls = .ref D ∧ (args = [] → d = none) ∧ lSx X.K ⟨i, a, d, args⟩ en rk [] [] (su args) D' σ H) (Wout := E) hs hf hN hi hln ⟨hgl, hdb, .inl gc⟩ hx.tk
    (fun W pn xe tk po => hb W pn xe ⟨hx.room, tk, po⟩)
    (fun a oe cls d pn hz hf => ⟨fun pins s σ H D' I ⟨n, su, args, D, hn, g, e1, ha, q⟩ => by
      obtain ⟨D2, g2, ex, hp⟩ := (hsu n su hn).ex
      rw [g] at g2
      cases g2
      subst e1
      exact (hp a oe d args pn hz hf ha).run pins s σ H D' I q⟩)) fun D' σ H ⟨G, R, τ, h, fs, o⟩ => by
    refine ⟨G, R, τ, h, fs, ?_⟩
    unfold sTryM at o
    cases e : f τ h with
    | nx τ' h' => rw [e] at o; exact o
    | rt t h' => rw [e] at o; exact o
    | no => rw [e] at o; exact o
    | exc y τ' h' =>
      rw [e] at o
      intro G' R' H' σ' cc d f2 sx px xr
      cases el : tb.lookup y.name with
      | none => dsimp only at o; rw [el] at o; exact o.elim
      | some su =>
        dsimp only at o; rw [el] at o
        have o : OutS X.K X.mg E en rk [] G R (if i < τ'.length then
          match su y.args (τ'.set i none) h' with
          | .rt t h2 => .rt t h2
          | .nx τ2 h2 => .nx (τ2.set i none) h2
          | _ => .no
        else .no) D' := o
        split at o
        · rename_i hn
          obtain ⟨D, g2, ex, hp⟩ := (hsu y.name su el).ex
          obtain ⟨C, h1, h2, h3⟩ := xr
          rw [g2] at h1
          cases h1
          subst h2
          have ha : y.args = [] → d = none := fun z => by rw [z] at h3; exact h3
          refine ⟨true, ex, fun _ a ha2 => ⟨y.name, su, y.args, D, el, g2, rfl, ha, G', R', τ'.set i none, h', ⟨f2.gd, f2.ext, fr_set0 f2.fr, f2.gd0⟩, ⟨?_, fun ne => ?_⟩, ?_⟩, fun q => by cases q⟩
          · have hi' : i < σ'.length := by
              have l1 := f2.fr.len
              omega
            exact List.getElem?_set_self hi'
          · cases ea : y.args with
            | nil => exact absurd ea ne
            | cons z l =>
              rw [ea] at h3
              exact h3
          · cases e2 : su y.args (τ'.set i none) h' with
            | nx τ2 h2 =>
              rw [e2] at o
              exact fun G3 R3 H3 σ3 f3 s3 p3 _ => o G3 R3 H3 (σ3.set i none) ⟨f3.gd, f3.ext, fr_set0 f3.fr, f3.gd0⟩ (same_trans sx s3) (px.trans p3)
            | rt t h2 => rw [e2] at o; exact o
            | exc x τ' h' => rw [e2] at o; exact o.elim
            | no => rw [e2] at o; exact o.elim
        · exact o.elim
end
abbrev bodyH (P : Program) (w : World) (K : PySem.W.Frag) (mg : Str → Option Value) (base : Heap) (N : List Str) (q : Str) (st : Stmt) (f : Addr) (cdv : Value) (A : Around) (outer : List Env) (s : Shared) (H : Hp) (E : XK) (p : Addr × Obj) : Cx :=
  L2H.cxH (L2N.CX P w) P w K mg base N q (defScope st) f cdv A outer s H E p
structure CalH (P : Program) (w : World) (K : PySem.W.Frag) (mg : Str → Option Value) (base : Heap) (k : Nat) (x : Str) (rk : Kd) (F : SF) : Prop where
  ex : ∃ (f : Addr) (fd : FuncData) (ps : List Str), L2H.FnH P w K mg base (L2N.CX P w) k f fd ps (spB K mg rk F) ∧ mg x = some (.ref f) ∧ PySem.W.keepIn K (.ref f) = true ∧ Binds K fd ps []
section
variable {P : Program} {w : World} {K : PySem.W.Frag} {mg : Str → Option Value} {base : Heap} {x m q : Str} {c : Cn} {st : Stmt} {N ps : List Str} {k : Nat}
theorem fnH {body : SS} {lin' : List Nat} {f : Addr} {fd : FuncData} (F : L2.Fun K m q st f fd) (S : FnScope N ps (defScope st))
    (hb : ∀ (f : Addr) (cdv : Value) (A : Around) (outer : List Env) (s : Shared) (H : Hp) (E : XK) (p : Addr × Obj) (en : Ent), L2H.RoomH k (A.deeper (envOfC q (defScope st) s.heap.objs.size f cdv)) → PSsB (bodyH P w K mg base N q st f cdv A outer s H E p) (fun c d _ H => E c d H) en .fz [] lin' (defBody st) body) :
    L2H.FnH P w K mg base (L2N.CX P w) (k + 1) f fd ps (spB K mg .fz (runF ps.length N.length body)) := by
  obtain ⟨oc, od, kV, doc, pm, an, cdv, ct, osl, rfl, lk, hcd⟩ := F.ex
  refine L2H.fn_ofH lk hcd S (fun vs H Q E h => ?_) (fun A outer s H vs Q E p hot hr h => ?_)
  · obtain ⟨G, R, ts, h, g, r, o⟩ := h
    rw [← r.len]
    by_cases q : ts.length = ps.length
    · exact q
    · unfold runF at o; rw [if_neg q] at o; exact o.elim
  · obtain ⟨G, R, ts, h, g, r, o⟩ := h
    unfold runF at o
    split at o
    · rename_i q
      refine ⟨_, hb f cdv A outer s H E p ⟨G, R, H⟩ hr, G, R, ts.map some ++ List.replicate (N.length - ps.length) none, h, ?_, ?_⟩
      · unfold L2.start
        have e : vs.length = ps.length := by rw [← r.len]; exact q
        rw [e]
        exact fr_start (en := ⟨G, R, H⟩) g r (N.length - ps.length)
      · cases eb : body (ts.map some ++ List.replicate (N.length - ps.length) none) h with
        | rt t h' => rw [eb] at o; exact fun G' R' H' v g' e' r' => o G' R' H' g' e' v r'
        | nx τ' h' => rw [eb] at o; exact fun G' R' H' σ' f' _ _ => o G' R' H' f'.gd f'.ext _ .non
        | exc x τ' h' => rw [eb] at o; exact fun G' R' H' σ' c d f' _ _ q => o G' R' H' c d f'.gd f'.ext q
        | no => rw [eb] at o; exact o
    · exact o.elim
theorem calH {body : SS} {lin' : List Nat} (W : Here K mg x st ps) (S : FnScope N ps (defScope st))
    (hb : ∀ (f : Addr) (cdv : Value) (A : Around) (outer : List Env) (s : Shared) (H : Hp) (E : XK) (p : Addr × Obj) (en : Ent), L2H.RoomH k (A.deeper (envOfC x (defScope st) s.heap.objs.size f cdv)) → PSsB (bodyH P w K mg base N x st f cdv A outer s H E p) (fun c d _ H => E c d H) en .fz [] lin' (defBody st) body) :
    CalH P w K mg base (k + 1) x .fz (runF ps.length N.length body) :=
  let ⟨f, fd, F, hm, hbi⟩ := W.ex
  ⟨f, fd, ps, fnH F S hb, hm, F.kp, hbi⟩
end
theorem hot_room {X : Cx} {k : Nat} {a : Addr} {pn : List (Addr × Obj)} (r : Room k X.A) : L2H.RoomH k (X.suite a pn).A := ⟨r.dp, r.un⟩
theorem takesN0 {X : Cx} : L2N.Takes X (fun _ _ _ _ => False) := fun _ _ x => by
  obtain ⟨_, _, _, _, _, _, _, _, _, _, _, _, _, _, _, _, z⟩ := x
  exact z.elim
theorem passNo {X : Cx} (σ : L2.St) : PassesAt (L2N.CX X.prog X.w) X σ (fun _ _ _ => False) := fun _ _ _ _ _ _ c => by
  obtain ⟨a, B, H', cls, d, _, fl, hok, ub, na, os, ag, hE⟩ := c
  exact hE.elim
theorem hot_of {X : Cx} {a D : Addr} {oe : Obj} {d : Option Addr} {pn : List (Addr × Obj)} (hz : L2N.Zn (.ref D) d oe) (hf : ∃ vs, oe.data = .fields vs) (hh : (X.suite a ((a, oe) :: pn)).A.handled = some (.ref a) := by rfl) : L2H.HotC (X.suite a ((a, oe) :: pn)) :=
  let ⟨vs, hv⟩ := hf
  ⟨(a, oe), ⟨hh, vs, hv, hz.2.2 vs hv⟩, List.mem_cons_self⟩
section
variable {X : Cx} {x : XI} {lin : List Nat} {a b e : Expr} {es : List Expr} {fa : SE} {fs : SA} {F : SF} {rk : Kd} {k j : Nat} {y m : Str} {pos p apos : Pos} {c : Cn} {pl : Sem Bool}
theorem pex_callH (C : CalH X.prog X.w X.K X.mg X.base k y rk F) (hc : L2H.HotC X) (hr : L2H.RoomH j X.A) (hk : k ≤ j) (hg : Gl X y) (ha : PAx X x lin (a :: es) fs) (hdb : (y == ("__debug__" : Str)) = false := by decide)
    (he : starEach (a :: es) X.env = (false, eval a X.env) :: starEach es X.env := by rfl) (hpl : (backTo pos (starEach es X.env)).any (·.1) = false := by rfl) : PEx X x lin rk (.Call (.Name y p) (a :: es) [] pos) (eCall F fs) := by
  obtain ⟨f, fd, ps, ok, hm, kp, hb⟩ := C.ex
  refine impE (L2H.pe_callH (E := fun _ _ _ _ => False) ok (hr.mono hk) hc hg hm kp hb (fun σ => passNo σ) ha hdb he hpl) fun σ H Q ⟨G, R, τ, h, N0, gd, fr, p, o⟩ => ?_
  refine lAx.then gd fr p o fun ts vs h1 G1 R1 H1 g1 e1 f1 p1 r1 o1 => ?_
  exact ⟨G1, R1, ts, h1, g1, r1, run_back g1 e1 o1⟩
end
end GB
namespace GB
open PySem PySem.Spec PyProof.Rows L2
def boxL (h : IH) : T → Option (Nat × List T)
  | .box n => match h[n]? with
    | some (.lst ts) => some (n, ts)
    | _ => none
  | _ => none
def sAppX (b f : SE) : SS := fun τ h => (b τ h).fl τ fun x h1 =>
  match boxL h1 x with
  | some _ => (f τ h1).fl τ fun t h2 =>
    match boxL h2 x with
    | some p => if p.2.length < sizeLine then .nx τ (h2.set p.1 (.lst (p.2 ++ [t]))) else .no
    | none => .no
  | none => .no
/-- a box's item at a place from its beginning taken out -/
def sPopX (b f : SE) : SS := fun τ h => (b τ h).fl τ fun x h1 =>
  match boxL h1 x with
  | some _ => (f τ h1).fl τ fun t h2 =>
    match t with
    | .int k => match boxL h2 x with
      | some p => if 0 ≤ k ∧ k < 4611686018427387904 ∧ k.toNat < p.2.length then .nx τ (h2.set p.1 (.lst (p.2.eraseIdx k.toNat))) else .no
      | none => .no
    | _ => .no
  | none => .no
def sClrX (b : SE) : SS := fun τ h => (b τ h).fl τ fun x h1 =>
  match boxL h1 x with
  | some p => .nx τ (h1.set p.1 (.lst []))
  | none => .no
/-- one list of the def's own put behind another, which stays -/
def sExtL (i j : Nat) : SS := fun τ h =>
  match τ[i]?, τ[j]? with
  | some (some (.lst ts)), some (some (.lst us)) => if ts.length + us.length ≤ sizeLine then .nx (τ.set i (some (.lst (ts ++ us)))) h else .no
  | _, _ => .no
end GB
namespace GB
open PySem PySem.Spec PyProof.Rows L2
def jsGo : List SE → Str → Ev → IH → Rs T
  | [], acc, _, h => .ok (.str acc) h
  | f :: fs, acc, τ, h => (f τ h).bind fun x h1 =>
    match x with
    | .str y => if (acc ++ y).length ≤ sizeLine then jsGo fs (acc ++ y) τ h1 else .no
    | _ => .no
def eJs (fs : List SE) : SE := fun τ h => jsGo fs Str.empty τ h
section
variable {X : Cx} {E : WX} {lin : List Nat} {kd : Kd} {e : Expr} {fa : SE} {pos : Pos}
theorem w_jsN {τ : Ev} {h : IH} {acc : Str} {P1 : T → IH → Prop} : Ok (jsGo [] acc τ h) P1 = P1 (.str acc) h := by
  show Ok (.ok (.str acc) h) P1 = _
  rw [w_ok]
theorem w_jsC {f : SE} {fs : List SE} {τ : Ev} {h : IH} {acc : Str} {P1 : T → IH → Prop} : Ok (jsGo (f :: fs) acc τ h) P1 = Ok (f τ h) fun x h1 => ∃ y, x = .str y ∧ (acc ++ y).length ≤ sizeLine ∧ Ok (jsGo fs (acc ++ y) τ h1) P1 := by
  show Ok ((f τ h).bind fun x h1 => (match x with
    | .str y => if (acc ++ y).length ≤ sizeLine then jsGo fs (acc ++ y) τ h1 else .no
    | _ => .no)) P1 = _
  rw [w_bind]
  congr 1; funext x h1
  cases x with
  | str y =>
    dsimp only
    by_cases z : (acc ++ y).length ≤ sizeLine
    · rw [if_pos z]
      exact propext ⟨fun q => ⟨y, rfl, z, q⟩, fun ⟨_, e, _, q⟩ => by cases e; exact q⟩
    · rw [if_neg z]
      exact propext ⟨fun q => q.out.elim, fun ⟨_, e, z', _⟩ => by cases e; exact absurd z' z⟩
  | _ => exact propext ⟨fun q => q.out.elim, fun ⟨_, e, _⟩ => nomatch e⟩
theorem w_eJs {fs : List SE} {τ : Ev} {h : IH} {P1 : T → IH → Prop} : Ok (eJs fs τ h) P1 = Ok (jsGo fs Str.empty τ h) P1 := rfl
end
end GB
namespace GB
open PySem PySem.Spec PyProof.Rows L2
def dg (i : Int) : Str := Str.ofString (toString i)
theorem dg_len {i : Int} (h : i.natAbs < 10 ^ 40) : (dg i).length ≤ 41 := by
  unfold dg
  rw [PySem.ofString_length, Int.toString_eq_repr, Int.repr_eq_if]
  split
  · have : i.toNat < 10 ^ 40 := by omega
    have := (Nat.length_repr_le_iff (k := 40) (by decide)).mpr this
    omega
  · have : (-i).toNat < 10 ^ 40 := by omega
    have := (Nat.length_repr_le_iff (k := 40) (by decide)).mpr this
    rw [String.length_append]
    have e : "-".length = 1 := rfl
    omega
theorem dg_ok {i : Int} : PyData.strOk (dg i) = true := by
  unfold dg PyData.strOk
  rw [Str.ofString_eq_toList]
  simp only [List.all_toArray, List.all_eq_true, List.mem_map, decide_eq_true_eq]
  rintro n ⟨c, hc, rfl⟩
  have := int_ascii i c hc
  omega
theorem ok_app {a b : Str} (ha : PyData.strOk a = true) (hb : PyData.strOk b = true) : PyData.strOk (a ++ b) = true := by
  unfold PyData.strOk at *
  show (a.cps ++ b.cps).all _ = true
  rw [Array.all_append, ha, hb]; rfl
theorem ok_joinS {s : Str} (hs : PyData.strOk s = true) : ∀ {zs : List Str}, (∀ z ∈ zs, PyData.strOk z = true) → PyData.strOk (Str.join s zs) = true
  | [], _ => by
    show PyData.strOk Str.empty = true
    decide +kernel
  | [z], h => h z (by simp)
  | x :: y :: r, h => by
    show PyData.strOk (x ++ s ++ Str.join s (y :: r)) = true
    exact ok_app (ok_app (h x (by simp)) hs) (ok_joinS hs fun z m => h z (List.mem_cons_of_mem _ m))
theorem ok_join {s : Str} {zs : List Str} (hs : PyData.strOk s = true) (h : ∀ z ∈ zs, PyData.strOk z = true) : PyData.strOk (Txt.join s zs) = true := by
  show PyData.strOk (Builtin.Str.glued s zs) = true
  rw [StrLaws.glued_eq_join]
  exact ok_joinS hs h
theorem join_len {s : Str} {zs : List Str} : (Txt.join s zs).length ≤ (zs.map (·.length)).sum + zs.length * s.length := by
  show (Builtin.Str.glued s zs).length ≤ _
  rw [StrLaws.glued_eq_join]
  exact StrLaws.join_length_le s zs
theorem q_joinS {a : Str} {ts : List T} {zs : List Str} {h : IH} (e : strsL ts = some zs) (b : (zs.map (·.length)).sum + zs.length * a.length ≤ 16777216) : gJoin (.str a) (.lst ts) h = some (.str (Txt.join a zs)) := by
  show (strsL ts).bind (fun ys => if (ys.map (·.length)).sum + ys.length * a.length ≤ 16777216 then some (T.str (Txt.join a ys)) else none) = _
  rw [e]
  show (if (zs.map (·.length)).sum + zs.length * a.length ≤ 16777216 then some (T.str (Txt.join a zs)) else none) = _
  rw [if_pos b]
theorem strs_map {α : Type} {g : α → Str} : ∀ {l : List α}, strsL (l.map fun x => T.str (g x)) = some (l.map g)
  | [] => rfl
  | x :: l => by
    show (strsL (l.map fun x => T.str (g x))).map (g x :: ·) = _
    rw [strs_map]; rfl
theorem sum_le {n : Nat} : ∀ {zs : List Str}, (∀ z ∈ zs, z.length ≤ n) → (zs.map (·.length)).sum ≤ zs.length * n
  | [], _ => Nat.zero_le _
  | z :: zs, h => by
    have := sum_le (zs := zs) fun w m => h w (List.mem_cons_of_mem _ m)
    have := h z (by simp)
    simp only [List.map_cons, List.sum_cons, List.length_cons, Nat.succ_mul]
    omega
section
variable {h : IH} {i : Int} {a b : Str}
theorem q_strI (e : i.natAbs < 10 ^ 40) : gStr (.int i) h = some (.str (dg i)) := by
  show (if i.natAbs.log2 < 1920 then some (T.str (toString i)) else none) = _
  rw [if_pos]; rfl
  by_cases z : i.natAbs = 0
  · rw [z]; decide
  · have q : i.natAbs < 2 ^ 140 := Nat.lt_of_lt_of_le e (by decide)
    have := (Nat.log2_lt z).mpr q
    omega
theorem q_strS : gStr (.str a) h = some (.str a) := rfl
theorem q_addS (e : a.length + b.length ≤ sizeLine) : gAdd (.str a) (.str b) h = some (.str (a ++ b)) := by
  show (if a.length + b.length ≤ sizeLine then some (T.str (a ++ b)) else none) = _
  rw [if_pos e]
end
/-- an item's text -/
def itS : Itm → Str
  | .line xs s => "line " ++ Txt.join " " (xs.map dg) ++ " " ++ dg s
  | .wait n => "wait" ++ " " ++ dg n
  | .tool b => "tool" ++ " " ++ (if b then "up" else "down")
  | .mark z => "mark" ++ " " ++ z
def MkOk : Itm → Prop
  | .mark z => PyData.strOk z = true ∧ z.length ≤ 8
  | .wait n => 0 ≤ n ∧ n ≤ 100000
  | _ => True
theorem dgs_len {xs : List Int} (h : ∀ x ∈ xs, x.natAbs < 10 ^ 40) : ((xs.map dg).map (·.length)).sum + (xs.map dg).length * (" " : Str).length ≤ xs.length * 42 := by
  have e : (" " : Str).length = 1 := by decide +kernel
  have := sum_le (n := 41) (zs := xs.map dg) fun z m => by
    obtain ⟨x, mx, rfl⟩ := List.mem_map.mp m
    exact dg_len (h x mx)
  rw [List.length_map] at *
  rw [e]
  omega
theorem itS_len {ax : Nat} {i : Itm} (ax3 : ax ≤ 3) (o : OkI ax i) (m : MkOk i) : (itS i).length ≤ 300 := by
  have l0 : (" " : Str).length = 1 := by decide +kernel
  have l1 : ("line " : Str).length = 5 := by decide +kernel
  have l2 : ("wait" : Str).length = 4 := by decide +kernel
  have l3 : ("tool" : Str).length = 4 := by decide +kernel
  have l4 : ("mark" : Str).length = 4 := by decide +kernel
  have l5 : ("up" : Str).length = 2 := by decide +kernel
  have l6 : ("down" : Str).length = 4 := by decide +kernel
  cases i with
  | line xs s =>
    have lo : LnOk ax xs s := o
    have a := dgs_len (xs := xs) fun x mx => by have := lo.bnd x mx; omega
    have b := join_len (s := " ") (zs := xs.map dg)
    have c := dg_len (i := s) (by have := lo.s1; have := lo.s2; omega)
    have d := lo.len
    show ("line " ++ Txt.join " " (xs.map dg) ++ " " ++ dg s : Str).length ≤ 300
    rw [Str.length_append, Str.length_append, Str.length_append]
    omega
  | wait n =>
    have c := dg_len (i := n) (by have := m.1; have := m.2; omega)
    show ("wait" ++ " " ++ dg n : Str).length ≤ 300
    rw [Str.length_append, Str.length_append]
    omega
  | tool b =>
    show ("tool" ++ " " ++ (if b then "up" else "down") : Str).length ≤ 300
    rw [Str.length_append, Str.length_append]
    cases b
    · show 4 + 1 + ("down" : Str).length ≤ 300; omega
    · show 4 + 1 + ("up" : Str).length ≤ 300; omega
  | mark z =>
    have := m.2
    show ("mark" ++ " " ++ z : Str).length ≤ 300
    rw [Str.length_append, Str.length_append]
    omega
theorem itS_ok {i : Itm} (m : MkOk i) : PyData.strOk (itS i) = true := by
  cases i with
  | line xs s => exact ok_app (ok_app (ok_app (by decide +kernel) (ok_join (by decide +kernel) fun z m => by obtain ⟨x, _, rfl⟩ := List.mem_map.mp m; exact dg_ok)) (by decide +kernel)) dg_ok
  | wait n => exact ok_app (ok_app (by decide +kernel) (by decide +kernel)) dg_ok
  | tool b => exact ok_app (ok_app (by decide +kernel) (by decide +kernel)) (by cases b <;> decide +kernel)
  | mark z => exact ok_app (ok_app (by decide +kernel) (by decide +kernel)) m.1
end GB
namespace GB
open PySem PySem.Spec PyProof.Rows L2
end GB
namespace GB
open PySem PySem.Spec PyProof.Rows L2
def lowB (c : Nat) : Bool := decide (97 ≤ c) && decide (c ≤ 122)
def nmB : T → Bool
  | .str z => (decide (1 ≤ z.length) && decide (z.length ≤ 8)) && z.cps.toList.all lowB
  | _ => false
def toB : T → Bool
  | .str z => decide (z = "up") || decide (z = "down")
  | _ => false
def nzB : T → Bool
  | .int i => i != 0
  | _ => false
def stB (n : Nat) : T → Bool
  | .tup ts => decide ((ts.length : Int) = n) && (ts.all (wiB (-100) 100) && ts.any nzB)
  | _ => false
def itB (n : Nat) : T → Bool
  | .tup [.str k, y] => if k = "line" then false else if k = "wait" then wiB 1 1000 y else if k = "tool" then toB y else decide (k = "mark") && nmB y
  | .tup [.str k, y, z] => decide (k = "line") && (stB n y && wiB 1 20 z)
  | _ => false
section
variable {n : Nat} {h : IH} {a b k : Str} {x y z : T} {ts : List T} {c : Nat}
theorem itB_1 : itB n (.tup [x]) = false := by cases x <;> rfl
theorem itB_4 {w : T} : itB n (.tup (x :: y :: z :: w :: ts)) = false := by cases x <;> rfl
theorem itB_n2 (e : isStr x = false) : itB n (.tup [x, y]) = false := by cases x <;> first | rfl | cases e
theorem itB_n3 (e : isStr x = false) : itB n (.tup [x, y, z]) = false := by cases x <;> first | rfl | cases e
theorem eq_strs (ea : PyData.strOk a = true) (eb : PyData.strOk b = true) : gEq (.str a) (.str b) h = some (.bl (decide (a = b))) := by
  by_cases q : a = b
  · subst q
    rw [decide_eq_true rfl]
    exact eq_str ea
  · rw [decide_eq_false q]
    exact eq_no (k := 0) (l := 0) (by decide) (by decide) ea eb rfl rfl (fun z => by injection z with z; exact q z)
theorem eqV_str : eqV (.str a) (.str b) = decide (b = a) := by
  show (a == b) = _
  rw [Bool.eq_iff_iff, beq_iff_eq, decide_eq_true_iff]
  exact eq_comm
theorem in_sides : gIn false (.str a) (.lst [.str "up", .str "down"]) h = some (.bl (toB (.str a))) := by
  unfold gIn
  split
  · rename_i e; cases e
  · show some (T.bl (false ^^ inV (.str a) [.str "up", .str "down"])) = _
    unfold inV
    simp only [List.any_cons, List.any_nil, eqV_str, Bool.false_xor, Bool.or_false, toB]
theorem in_sidesT : gIn false (.str a) (.tup [.str "up", .str "down"]) h = some (.bl (toB (.str a))) := by
  unfold gIn
  split
  · rename_i e; cases e
  · show some (T.bl (false ^^ inV (.str a) [.str "up", .str "down"])) = _
    unfold inV
    simp only [List.any_cons, List.any_nil, eqV_str, Bool.false_xor, Bool.or_false, toB]
theorem in_small : gIn false (.str ⟨#[c]⟩) (.str "abcdefghijklmnopqrstuvwxyz") h = some (.bl (lowB c)) := by
  show some (T.bl (false ^^ decide (c ∈ ("abcdefghijklmnopqrstuvwxyz" : Str).cps.toList))) = _
  have e : ("abcdefghijklmnopqrstuvwxyz" : Str).cps.toList = (List.range 26).map (· + 97) := by decide +kernel
  rw [e, Bool.false_xor]
  congr 2
  unfold lowB
  rw [Bool.eq_iff_iff, decide_eq_true_iff, Bool.and_eq_true, decide_eq_true_iff, decide_eq_true_iff, List.mem_map]
  constructor
  · rintro ⟨i, mi, rfl⟩
    have := List.mem_range.mp mi
    omega
  · rintro ⟨h1, h2⟩
    exact ⟨c - 97, List.mem_range.mpr (by omega), by omega⟩
theorem q_slS {lo hi : Option Int} (e : a.length ≤ sizeLine) : gSlT (.str a) lo hi h = some (.str (cutS a lo hi)) := by
  show (if a.length ≤ sizeLine then some (T.str (cutS a lo hi)) else none) = _
  rw [if_pos e]
theorem q_lenS (e : a.length ≤ sizeLine) : gLen (.str a) h = some (.int (a.length : Int)) := by
  show (if a.length ≤ sizeLine then some (T.int (a.length : Int)) else none) = _
  rw [if_pos e]
theorem q_gS : gS (.str a) h = some (a.cps.toList.map fun c => T.str ⟨#[c]⟩) := rfl
theorem trus_nz : ∀ {ts : List T}, ts.all (wiB (-100) 100) = true → truL ts = some (ts.map nzB)
  | [], _ => rfl
  | t :: ts, e => by
    rw [List.all_cons, Bool.and_eq_true] at e
    cases t with
    | int i =>
      show (match truT (.int i), truL ts with | some b, some bs => some (b :: bs) | _, _ => none) = _
      rw [trus_nz e.2]; rfl
    | _ => cases e.1
end
end GB
namespace GB
open PySem PySem.Spec PyProof.Rows L2
open Sem (wp)
open AutoSeq1 (wpAny_loadPart')
/-- enumerate(zip(a, b)) of two lists -/
def iEnZ (f g : SE) : SI := fun τ h => (f τ h).bind fun x h1 => (g τ h1).bind fun y h2 =>
  match x, y with
  | .lst xs, .lst ys => .ok (enumL (zipT xs ys)) h2
  | _, _ => .no
end GB
namespace GB
open PySem PySem.Spec PyProof.Rows L2
section
variable {τ : Ev} {h : IH} {f g : SE} {PL : List T → IH → Prop}
theorem w_iEnZ : Ok (iEnZ f g τ h) PL = Ok (f τ h) fun x h1 => ∃ xs, x = .lst xs ∧ Ok (g τ h1) fun y h2 => ∃ ys, y = .lst ys ∧ PL (enumL (zipT xs ys)) h2 := by
  unfold iEnZ
  rw [w_bind]
  congr 1; funext x h1
  cases x with
  | lst xs =>
    rw [w_bind]
    refine propext ⟨fun q => ⟨xs, rfl, q.imp fun y h2 z => ?_⟩, fun ⟨_, e, q⟩ => ?_⟩
    · cases y with
      | lst ys => rw [w_ok] at z; exact ⟨ys, rfl, z⟩
      | _ => exact z.out.elim
    · cases e
      refine q.imp fun y h2 z => ?_
      obtain ⟨ys, rfl, z⟩ := z
      rw [w_ok]; exact z
  | _ =>
    rw [w_bind]
    refine propext ⟨fun q => ?_, fun ⟨_, e, _⟩ => nomatch e⟩
    obtain ⟨y, h2, _, z⟩ := q.ex
    exact z.out.elim
end
end GB
namespace GB
open PySem PySem.Spec PyProof.Rows L2
section
variable {τ : Ev} {h : IH} {f g : SE} {fs : SA} {F : SF} {c : Cn} {i : Nat} {P : T → IH → Prop} {N : Ev → IH → Prop} {M : T → IH → Prop}
theorem w_toBox : Ok (toBox f τ h) P = Ok (f τ h) fun t h1 => ∃ ts, t = .lst ts ∧ P (.box h1.length) (h1 ++ [.lst ts]) := by
  unfold toBox
  rw [w_bind]
  congr 1; funext t h1
  cases t with
  | lst ts => exact propext ⟨fun q => ⟨ts, rfl, by rw [w_ok] at q; exact q⟩, fun ⟨_, e, q⟩ => by cases e; rw [w_ok]; exact q⟩
  | _ => exact propext ⟨fun q => q.out.elim, fun ⟨_, e, _⟩ => nomatch e⟩
theorem w_Fld : Ok (eFld c i f τ h) P = Ok (f τ h) fun x h1 => ∃ p, isObj c h1 x = some p ∧ ∃ t, p.2[i]? = some t ∧ P t h1 := by
  unfold eFld
  rw [w_bind]
  congr 1; funext x h1
  cases e : isObj c h1 x with
  | none => exact propext ⟨fun q => q.out.elim, fun ⟨_, z, _⟩ => nomatch z⟩
  | some p =>
    dsimp only
    rw [w_of]
    refine propext ⟨fun ⟨t, h2, h3⟩ => ⟨p, rfl, t, h2, h3⟩, fun ⟨_, z, t, h2, h3⟩ => ?_⟩
    cases z
    exact ⟨t, h2, h3⟩
theorem w_Meth : Ok (eMeth c F f fs τ h) P = Ok (f τ h) fun x h1 => (∃ p, isObj c h1 x = some p) ∧ Ok (fs τ h1) fun ts h2 => Ok (F (x :: ts) h2) P := by
  unfold eMeth
  rw [w_bind]
  congr 1; funext x h1
  cases e : isObj c h1 x with
  | none => exact propext ⟨fun q => q.out.elim, fun ⟨⟨_, z⟩, _⟩ => nomatch z⟩
  | some p =>
    dsimp only
    rw [w_bind]
    exact propext ⟨fun q => ⟨⟨p, rfl⟩, q⟩, fun q => q.2⟩
theorem w_Make : Ok (eMake c F fs τ h) P = Ok (fs τ h) fun ts h1 => Ok (F (.box h1.length :: ts) (h1 ++ [.obj c []])) fun t h2 => t = .non ∧ P (.box h1.length) h2 := by
  unfold eMake
  rw [w_bind]
  congr 1; funext ts h1
  rw [w_bind]
  congr 1; funext t h2
  cases t with
  | non => exact propext ⟨fun q => ⟨rfl, by rw [w_ok] at q; exact q⟩, fun q => by rw [w_ok]; exact q.2⟩
  | _ => exact propext ⟨fun q => q.out.elim, fun ⟨e, _⟩ => nomatch e⟩
theorem v_FldT : OkS (sFldT c i f g τ h) N M = Ok (g τ h) fun v h1 => Ok (f τ h1) fun x h2 => ∃ p, isObj c h2 x = some p ∧ i ≤ p.2.length ∧ N τ (h2.set p.1 (.obj c (putAt p.2 i v))) := by
  unfold sFldT
  rw [w_fl]
  congr 1; funext v h1
  rw [w_fl]
  congr 1; funext x h2
  cases e : isObj c h2 x with
  | none => exact propext ⟨fun q => q.out.elim, fun ⟨_, z, _⟩ => nomatch z⟩
  | some p =>
    dsimp only
    by_cases q : i ≤ p.2.length
    · rw [if_pos q, v_nx]
      exact propext ⟨fun z => ⟨p, rfl, q, z⟩, fun ⟨_, z, _, k⟩ => by cases z; exact k⟩
    · rw [if_neg q]
      exact propext ⟨fun z => z.out.elim, fun ⟨_, z, k, _⟩ => by cases z; exact absurd k q⟩
theorem v_FldInc : OkS (sFldInc c i f g τ h) N M = Ok (f τ h) fun x h1 => ∃ p, isObj c h1 x = some p ∧ ∃ a, p.2[i]? = some (.int a) ∧ Ok (g τ h1) fun y h2 => ∃ b, y = .int b ∧ ∃ q, isObj c h2 x = some q ∧ i < q.2.length ∧ N τ (h2.set q.1 (.obj c (q.2.set i (.int (a + b))))) := by
  unfold sFldInc
  rw [w_fl]
  congr 1; funext x h1
  cases e : isObj c h1 x with
  | none => exact propext ⟨fun q => q.out.elim, fun ⟨_, z, _⟩ => nomatch z⟩
  | some p =>
    dsimp only
    refine propext ⟨fun o => ?_, fun ⟨_, z, a, h2, k⟩ => ?_⟩
    · split at o
      · rename_i a ea
        refine ⟨p, rfl, a, ea, ?_⟩
        rw [w_fl] at o
        refine o.imp fun y h2 o2 => ?_
        split at o2
        · rename_i b
          split at o2
          · rename_i q eq
            split at o2
            · rename_i hi
              rw [v_nx] at o2
              exact ⟨b, rfl, q, eq, hi, o2⟩
            · exact o2.out.elim
          · exact o2.out.elim
        · exact o2.out.elim
      · exact o.out.elim
    · cases z
      rw [h2]
      dsimp only
      rw [w_fl]
      refine k.imp fun y h3 ⟨b, ey, q, eq, hi, kk⟩ => ?_
      subst ey
      dsimp only
      rw [eq]
      dsimp only
      rw [if_pos hi, v_nx]
      exact kk
theorem tryM_excN {tb : STb} {f : SS} {n : String} {args : List (String × T)} {τ' : Ev} {h' : IH} {su : List (String × T) → SS} (e : f τ h = .exc ⟨n, args⟩ τ' h') (l : tb.lookup n = some su) (hi : i < τ'.length) (o : OkS (su args (τ'.set i none) h') (fun τ2 h2 => N (τ2.set i none) h2) M) : OkS (sTryM tb i f τ h) N M := by
  unfold sTryM
  rw [e]
  dsimp only
  rw [l]
  dsimp only
  rw [if_pos hi]
  cases q : su args (τ'.set i none) h' with
  | rt t h2 => rw [q, v_rt] at o; dsimp only; rw [v_rt]; exact o
  | nx τ2 h2 => rw [q, v_nx] at o; dsimp only; rw [v_nx]; exact o
  | exc x τ2 h2 => rw [q] at o; exact o.out.elim
  | no => rw [q] at o; exact o.out.elim
theorem tryM_exc {tb : STb} {f : SS} {n : String} {args : List (String × T)} {τ' : Ev} {h' : IH} {su : List (String × T) → SS} (e : f τ h = .exc ⟨n, args⟩ τ' h') (l : tb.lookup n = some su) (hi : i < τ'.length) (o : OkS (su args (τ'.set i none) h') (fun _ _ => False) M) : OkS (sTryM tb i f τ h) N M := tryM_excN e l hi (o.imp (fun _ _ z => z.elim) fun _ _ z => z)
theorem tryM_ok {tb : STb} {f : SS} (o : OkS (f τ h) N M) : OkS (sTryM tb i f τ h) N M := by
  unfold sTryM
  cases q : f τ h with
  | rt t h2 => rw [q] at o; exact o
  | nx τ2 h2 => rw [q] at o; exact o
  | exc x τ2 h2 => rw [q] at o; exact o.out.elim
  | no => rw [q] at o; exact o
end
end GB
namespace GB
open PySem PySem.Spec PyProof.Rows L2
section
variable {τ : Ev} {h : IH} {f g : SE} {i j : Nat} {N : Ev → IH → Prop} {M : T → IH → Prop}
theorem v_AppX : OkS (sAppX f g τ h) N M = Ok (f τ h) fun x h1 => (∃ p, boxL h1 x = some p) ∧ Ok (g τ h1) fun t h2 => ∃ p, boxL h2 x = some p ∧ p.2.length < sizeLine ∧ N τ (h2.set p.1 (.lst (p.2 ++ [t]))) := by
  unfold sAppX
  rw [w_fl]
  congr 1; funext x h1
  cases e : boxL h1 x with
  | none => exact propext ⟨fun q => q.out.elim, fun ⟨⟨_, z⟩, _⟩ => nomatch z⟩
  | some p0 =>
    dsimp only
    rw [w_fl]
    refine Eq.trans (congrArg (Ok (g τ h1)) (funext fun t => funext fun h2 => (?_ : _ = ∃ p, boxL h2 x = some p ∧ p.2.length < sizeLine ∧ N τ (h2.set p.1 (.lst (p.2 ++ [t])))))) ?_
    · cases e2 : boxL h2 x with
      | none => exact propext ⟨fun q => q.out.elim, fun ⟨_, z, _⟩ => nomatch z⟩
      | some p =>
        dsimp only
        by_cases q : p.2.length < sizeLine
        · rw [if_pos q, v_nx]
          exact propext ⟨fun z => ⟨p, rfl, q, z⟩, fun ⟨_, z, _, k⟩ => by cases z; exact k⟩
        · rw [if_neg q]
          exact propext ⟨fun z => z.out.elim, fun ⟨_, z, k, _⟩ => by cases z; exact absurd k q⟩
    · exact propext ⟨fun q => ⟨⟨p0, rfl⟩, q⟩, fun q => q.2⟩
theorem v_PopX : OkS (sPopX f g τ h) N M = Ok (f τ h) fun x h1 => (∃ p, boxL h1 x = some p) ∧ Ok (g τ h1) fun t h2 => ∃ k, t = .int k ∧ ∃ p, boxL h2 x = some p ∧ (0 ≤ k ∧ k < 4611686018427387904 ∧ k.toNat < p.2.length) ∧ N τ (h2.set p.1 (.lst (p.2.eraseIdx k.toNat))) := by
  unfold sPopX
  rw [w_fl]
  congr 1; funext x h1
  cases e : boxL h1 x with
  | none => exact propext ⟨fun q => q.out.elim, fun ⟨⟨_, z⟩, _⟩ => nomatch z⟩
  | some p0 =>
    dsimp only
    rw [w_fl]
    refine Eq.trans (congrArg (Ok (g τ h1)) (funext fun t => funext fun h2 => (?_ : _ = ∃ k, t = .int k ∧ ∃ p, boxL h2 x = some p ∧ (0 ≤ k ∧ k < 4611686018427387904 ∧ k.toNat < p.2.length) ∧ N τ (h2.set p.1 (.lst (p.2.eraseIdx k.toNat)))))) ?_
    · cases t with
      | int k =>
        dsimp only
        cases e2 : boxL h2 x with
        | none => exact propext ⟨fun q => q.out.elim, fun ⟨_, _, _, z, _⟩ => nomatch z⟩
        | some p =>
          dsimp only
          by_cases q : 0 ≤ k ∧ k < 4611686018427387904 ∧ k.toNat < p.2.length
          · rw [if_pos q, v_nx]
            exact propext ⟨fun z => ⟨k, rfl, p, rfl, q, z⟩, fun ⟨_, z1, _, z2, _, k⟩ => by cases z1; cases z2; exact k⟩
          · rw [if_neg q]
            exact propext ⟨fun z => z.out.elim, fun ⟨_, z1, _, z2, k, _⟩ => by cases z1; cases z2; exact absurd k q⟩
      | _ => exact propext ⟨fun q => q.out.elim, fun ⟨_, z, _⟩ => nomatch z⟩
    · exact propext ⟨fun q => ⟨⟨p0, rfl⟩, q⟩, fun q => q.2⟩
theorem v_ClrX : OkS (sClrX f τ h) N M = Ok (f τ h) fun x h1 => ∃ p, boxL h1 x = some p ∧ N τ (h1.set p.1 (.lst [])) := by
  unfold sClrX
  rw [w_fl]
  congr 1; funext x h1
  cases e : boxL h1 x with
  | none => exact propext ⟨fun q => q.out.elim, fun ⟨_, z, _⟩ => nomatch z⟩
  | some p =>
    dsimp only
    rw [v_nx]
    exact propext ⟨fun z => ⟨p, rfl, z⟩, fun ⟨_, z, k⟩ => by cases z; exact k⟩
theorem v_ExtL : OkS (sExtL i j τ h) N M = ∃ ts us, τ[i]? = some (some (.lst ts)) ∧ τ[j]? = some (some (.lst us)) ∧ ts.length + us.length ≤ sizeLine ∧ N (τ.set i (some (.lst (ts ++ us)))) h := by
  unfold sExtL
  split
  · rename_i ts us e e'
    by_cases q : ts.length + us.length ≤ sizeLine
    · rw [if_pos q, v_nx]
      exact propext ⟨fun z => ⟨ts, us, e, e', q, z⟩, fun ⟨_, _, z, z', _, k⟩ => by rw [e] at z; rw [e'] at z'; cases z; cases z'; exact k⟩
    · rw [if_neg q]
      exact propext ⟨fun z => z.out.elim, fun ⟨_, _, z, z', k, _⟩ => by rw [e] at z; rw [e'] at z'; cases z; cases z'; exact absurd k q⟩
  · rename_i hn
    exact propext ⟨fun z => z.out.elim, fun ⟨ts, us, z, z', _⟩ => absurd z' (hn ts us z)⟩
end
end GB
namespace GB
open PySem PySem.Spec PyProof.Rows L2
structure OkX {α : Type} (r : Rs α) (P : α → IH → Prop) (Z : Ex → IH → Prop) : Prop where
  out : match r with | .ok a h => P a h | .exc x h => Z x h | .no => False
structure OkZ (r : Fl) (N : Ev → IH → Prop) (M : T → IH → Prop) (Z : Ex → Ev → IH → Prop) : Prop where
  out : match r with | .nx τ h => N τ h | .rt t h => M t h | .exc x τ h => Z x τ h | .no => False
section
variable {α β : Type} {r : Rs α} {k : α → IH → Rs β} {P : α → IH → Prop} {Q : β → IH → Prop} {Z : Ex → IH → Prop} {Y : Ex → Ev → IH → Prop} {τ : Ev} {h : IH} {N : Ev → IH → Prop} {M PT : T → IH → Prop} {f g : SS} {fe : SE} {fs : SA} {c : SB} {F : SF} {i : Nat} {PL : List T → IH → Prop}
theorem x_of (o : Ok r P) : OkX r P Z := by
  have := o.out
  cases r with
  | ok a h => exact ⟨this⟩
  | exc x h => exact this.elim
  | no => exact this.elim
theorem z_of {r : Fl} (o : OkS r N M) : OkZ r N M Y := by
  have := o.out
  cases r with
  | nx τ h => exact ⟨this⟩
  | rt t h => exact ⟨this⟩
  | exc x τ h => exact this.elim
  | no => exact this.elim
theorem OkX.imp {P' : α → IH → Prop} {Z' : Ex → IH → Prop} (o : OkX r P Z) (p : ∀ a h, P a h → P' a h) (z : ∀ x h, Z x h → Z' x h) : OkX r P' Z' := by
  have := o.out
  cases r with
  | ok a h => exact ⟨p _ _ this⟩
  | exc x h => exact ⟨z _ _ this⟩
  | no => exact this.elim
theorem OkZ.imp {r : Fl} {N' : Ev → IH → Prop} {M' : T → IH → Prop} {Y' : Ex → Ev → IH → Prop} (o : OkZ r N M Y) (n : ∀ τ h, N τ h → N' τ h) (m : ∀ t h, M t h → M' t h) (z : ∀ x τ h, Y x τ h → Y' x τ h) : OkZ r N' M' Y' := by
  have := o.out
  cases r with
  | nx τ h => exact ⟨n _ _ this⟩
  | rt t h => exact ⟨m _ _ this⟩
  | exc x τ h => exact ⟨z _ _ _ this⟩
  | no => exact this.elim
theorem x_ok {a : α} : OkX (.ok a h) P Z = P a h := propext ⟨fun q => q.out, fun q => ⟨q⟩⟩
theorem x_exc {x : Ex} : OkX (.exc x h : Rs α) P Z = Z x h := propext ⟨fun q => q.out, fun q => ⟨q⟩⟩
theorem x_bind : OkX (r.bind k) Q Z = OkX r (fun a h => OkX (k a h) Q Z) Z := by
  cases r with
  | ok a h => rw [x_ok]; rfl
  | exc x h => rw [x_exc]; exact x_exc
  | no => exact propext ⟨fun q => q.out.elim, fun q => q.out.elim⟩
theorem z_nx : OkZ (.nx τ h) N M Y = N τ h := propext ⟨fun q => q.out, fun q => ⟨q⟩⟩
theorem z_rt {t : T} : OkZ (.rt t h) N M Y = M t h := propext ⟨fun q => q.out, fun q => ⟨q⟩⟩
theorem z_exc {x : Ex} : OkZ (.exc x τ h) N M Y = Y x τ h := propext ⟨fun q => q.out, fun q => ⟨q⟩⟩
theorem z_fl {k : α → IH → Fl} : OkZ (r.fl τ k) N M Y = OkX r (fun a h => OkZ (k a h) N M Y) (fun x h => Y x τ h) := by
  cases r with
  | ok a h => rw [x_ok]; rfl
  | exc x h => rw [x_exc]; exact z_exc
  | no => exact propext ⟨fun q => q.out.elim, fun q => q.out.elim⟩
theorem z_Seq : OkZ (sSeq f g τ h) N M Y = OkZ (f τ h) (fun τ h => OkZ (g τ h) N M Y) M Y := by
  unfold sSeq
  cases f τ h with
  | nx τ h => rw [z_nx]
  | rt t h => rw [z_rt, z_rt]
  | exc x τ h => rw [z_exc, z_exc]
  | no => exact propext ⟨fun q => q.out.elim, fun q => q.out.elim⟩
theorem z_If : OkZ (sIf c f g τ h) N M Y = OkX (c τ h) (fun b h1 => if b = true then OkZ (f τ h1) N M Y else OkZ (g τ h1) N M Y) (fun x h => Y x τ h) := by
  unfold sIf
  rw [z_fl]
  congr 1; funext b h1
  cases b <;> rfl
theorem z_Ret : OkZ (sRet fe τ h) N M Y = OkX (fe τ h) M (fun x h => Y x τ h) := by
  unfold sRet
  rw [z_fl]
  congr 1; funext t h1
  exact z_rt
theorem z_Skip : OkZ (sSkip τ h) N M Y = N τ h := z_nx
theorem z_RaiseA {n : String} {ns : List String} : OkZ (sRaiseA n ns fs τ h) N M Y = OkX (fs τ h) (fun ts h1 => ∃ w us, ts = w :: us ∧ us.length = ns.length ∧ ns.length ≤ 9 ∧ Y ⟨n, (ns.zip us).reverse⟩ τ h1) (fun x h => Y x τ h) := by
  unfold sRaiseA
  rw [z_fl]
  congr 1; funext ts h1
  cases ts with
  | nil => exact propext ⟨fun q => q.out.elim, fun ⟨_, _, e, _⟩ => nomatch e⟩
  | cons w us =>
    dsimp only
    by_cases q : us.length = ns.length ∧ ns.length ≤ 9
    · rw [if_pos q, z_exc]
      exact propext ⟨fun z => ⟨w, us, rfl, q.1, q.2, z⟩, fun ⟨_, _, e, _, _, z⟩ => by cases e; exact z⟩
    · rw [if_neg q]
      exact propext ⟨fun z => z.out.elim, fun ⟨_, _, e, a, b, _⟩ => by cases e; exact absurd ⟨a, b⟩ q⟩
theorem x_runF {n nl : Nat} {ts : List T} : OkX (runF n nl f ts h) PT Z = (ts.length = n ∧ OkZ (f (ts.map some ++ List.replicate (nl - n) none) h) (fun _ h' => PT .non h') PT (fun x _ h => Z x h)) := by
  unfold runF
  by_cases q : ts.length = n
  · rw [if_pos q]
    cases f (ts.map some ++ List.replicate (nl - n) none) h with
    | nx τ h => rw [z_nx]; dsimp only; rw [x_ok]; exact propext ⟨fun z => ⟨q, z⟩, fun z => z.2⟩
    | rt t h => rw [z_rt]; dsimp only; rw [x_ok]; exact propext ⟨fun z => ⟨q, z⟩, fun z => z.2⟩
    | exc x τ h => rw [z_exc]; dsimp only; rw [x_exc]; exact propext ⟨fun z => ⟨q, z⟩, fun z => z.2⟩
    | no => exact propext ⟨fun q => q.out.elim, fun q => q.2.out.elim⟩
  · rw [if_neg q]
    exact propext ⟨fun z => z.out.elim, fun z => absurd z.1 q⟩
/-- a call that may raise; its arguments do not -/
theorem x_Call (o : Ok (fs τ h) fun ts h1 => OkX (F ts h1) PT Z) : OkX (eCall F fs τ h) PT Z := by
  unfold eCall
  rw [x_bind]
  exact x_of o
theorem z_TryM {tb : STb} (o : OkZ (f τ h) N M fun x τ' h' => ∃ su, tb.lookup x.name = some su ∧ i < τ'.length ∧ OkS (su x.args (τ'.set i none) h') (fun _ _ => False) M) : OkS (sTryM tb i f τ h) N M := by
  cases q : f τ h with
  | nx τ' h' => rw [q, z_nx] at o; exact tryM_ok (by rw [q, v_nx]; exact o)
  | rt t h' => rw [q, z_rt] at o; exact tryM_ok (by rw [q, v_rt]; exact o)
  | exc x τ' h' =>
    rw [q, z_exc] at o
    obtain ⟨su, l, hi, k⟩ := o
    exact tryM_exc (n := x.name) (args := x.args) q l hi k
  | no => rw [q] at o; exact o.out.elim
theorem z_For {it : SI} {pt : Pat} {body : SS} : OkZ (sFor it pt body τ h) N M Y = OkX (it τ h) (fun ts h1 => OkZ (forGo pt body ts τ h1) N M Y) (fun x h => Y x τ h) := by
  unfold sFor
  rw [z_fl]
theorem z_forN {pt : Pat} {body : SS} : OkZ (forGo pt body [] τ h) N M Y = N τ h := z_nx
theorem z_forC {pt : Pat} {body : SS} {t : T} {ts : List T} {τ1 : Ev} (e : bindP pt t τ = some τ1) : OkZ (forGo pt body (t :: ts) τ h) N M Y = OkZ (body τ1 h) (fun τ2 h2 => OkZ (forGo pt body ts τ2 h2) N M Y) M Y := by
  show OkZ (match bindP pt t τ with | none => .no | some τ1 => match body τ1 h with | .nx τ2 h2 => forGo pt body ts τ2 h2 | r => r) N M Y = _
  rw [e]
  dsimp only
  cases body τ1 h with
  | nx τ h => rw [z_nx]
  | rt t h => rw [z_rt, z_rt]
  | exc x τ h => rw [z_exc, z_exc]
  | no => exact propext ⟨fun q => q.out.elim, fun q => q.out.elim⟩
theorem for_ixZ {pt : Pat} {body : SS} (I : Nat → Ev → IH → Prop) {us : List T} (h0 : I 0 τ h)
    (step : ∀ k t τ h, us[k]? = some t → I k τ h → ∃ τ1, bindP pt t τ = some τ1 ∧ OkZ (body τ1 h) (fun τ2 h2 => I (k + 1) τ2 h2) M Y) (fin : ∀ τ h, I us.length τ h → N τ h) : OkZ (forGo pt body us τ h) N M Y := by
  have key : ∀ (vs : List T) (k : Nat) (τ : Ev) (h : IH), vs = us.drop k → k ≤ us.length → I k τ h → OkZ (forGo pt body vs τ h) N M Y := by
    intro vs
    induction vs with
    | nil =>
      intro k τ h e hk i
      rw [z_forN]
      have : us.length ≤ k := by
        have := congrArg List.length e
        rw [List.length_nil, List.length_drop] at this
        omega
      have ek : k = us.length := by omega
      subst ek
      exact fin τ h i
    | cons t vs ih =>
      intro k τ h e hk i
      have hlt : k < us.length := by
        have := congrArg List.length e
        rw [List.length_cons, List.length_drop] at this
        omega
      rw [List.drop_eq_getElem_cons hlt] at e
      obtain ⟨e1, e2⟩ := List.cons.inj e
      obtain ⟨τ1, eb, o⟩ := step k t τ h (by rw [List.getElem?_eq_getElem hlt, e1]) i
      rw [z_forC eb]
      exact o.imp (fun τ2 h2 q => ih (k + 1) τ2 h2 e2 hlt q) (fun _ _ q => q) fun _ _ _ q => q
  exact key us 0 τ h (by simp) (Nat.zero_le _) h0
end
end GB
namespace GB
open PySem PySem.Spec PyProof.Rows L2
/-- nothing is asked of the heap -/
structure FlO (h : IH) : Prop where
  t : True
def BagO (h : IH) (n : Nat) : Prop := ∃ c m : Int, h[n]? = some (.lst [.int c, .int m]) ∧ 0 ≤ c ∧ 0 ≤ m ∧ m < 2147483629 ∧ FlO h
theorem BagO.flat {h : IH} {n : Nat} (_ : BagO h n) : FlO h := ⟨trivial⟩
theorem plB_ints {rs q : List Int} (lq : q.length = rs.length) : plB rs (tupI q) = ((q.zip rs).map fun p => decide (0 ≤ p.1) && decide (p.1 ≤ p.2)).all id := by
  show (decide ((q.map T.int).length = rs.length) && (((q.map T.int).zip rs).map fun p => wiB 0 p.2 p.1).all id) = _
  rw [List.length_map, decide_eq_true lq, Bool.true_and, List.zip_map_left, List.map_map]
  congr 1
  refine List.map_congr_left fun p _ => ?_
  show wiB 0 p.2 (.int p.1) = _
  first | rfl | (unfold wiB; simp) | (unfold wiB whB; simp)
/-- the first item that leads off -/
def offF (rs : List Int) : List Int → List Itm → Option Nat
  | _, [] => none
  | ps, i :: is => if plB rs (tupI (ledI ps i)) = true then (offF rs (ledI ps i) is).map (· + 1) else some 0
/-- the reaches, border by border from behind -/
def reachN (w : Int) (is : List Itm) (S : List Fr2) : Nat → List Fr2
  | 0 => S
  | k + 1 => if sqAt (reachN w is S k) (is.length - 1 - k) = nought then reachN w is S k
    else (reachN w is S k).set (is.length - 1 - k) (lesserF (sqAt (reachN w is S k) (is.length - 1 - k)) (plusK (sqAt (reachN w is S k) (is.length - 1 - k + 1)) (chg w (is.getD (is.length - 1 - k) (.wait 0)))))
theorem reachN_len {w : Int} {is : List Itm} {S : List Fr2} : ∀ k, (reachN w is S k).length = S.length
  | 0 => rfl
  | k + 1 => by
    unfold reachN
    split
    · exact reachN_len k
    · rw [List.length_set]; exact reachN_len k
theorem sqAt_set {S : List Fr2} {i j : Nat} {x : Fr2} : sqAt (S.set i x) j = if i = j ∧ i < S.length then x else sqAt S j := by
  unfold sqAt
  rw [List.getD_eq_getElem?_getD, List.getD_eq_getElem?_getD, List.getElem?_set]
  by_cases e : i = j
  · subst e
    by_cases l : i < S.length
    · rw [if_pos rfl, if_pos l, if_pos ⟨rfl, l⟩]; rfl
    · rw [if_pos rfl, if_neg l, if_neg (fun z => l z.2), List.getElem?_eq_none (by omega)]
  · rw [if_neg e, if_neg (fun z => e z.1)]
theorem reachN_low {w : Int} {is : List Itm} {S : List Fr2} : ∀ (k j : Nat), j + k < is.length → sqAt (reachN w is S k) j = sqAt S j
  | 0, _, _ => rfl
  | k + 1, j, h => by
    unfold reachN
    split
    · exact reachN_low k j (by omega)
    · rw [sqAt_set, if_neg (fun z => by omega)]
      exact reachN_low k j (by omega)
theorem nought_bd {n : Nat} : Bd n nought := ⟨⟨by decide, by decide⟩, by decide, by
  show (0 : Int) ≤ _
  exact Int.mul_nonneg (by omega) (by decide), by decide⟩
theorem reachN_bd {ax : Nat} {w : Int} {is : List Itm} {S : List Fr2} (w0 : 1 ≤ w) (w1 : w ≤ 50) (ok : ∀ i ∈ is, OkI ax i) (b : ∀ j, Bd 0 (sqAt S j)) : ∀ (k j : Nat), Bd k (sqAt (reachN w is S k) j)
  | 0, j => b j
  | k + 1, j => by
    have ih := reachN_bd w0 w1 ok b k
    have ck : 0 ≤ chg w (is.getD (is.length - 1 - k) (.wait 0)) ∧ chg w (is.getD (is.length - 1 - k) (.wait 0)) ≤ 10000 := by
      rw [List.getD_eq_getElem?_getD]
      cases e : is[is.length - 1 - k]? with
      | none => exact ⟨Int.le_refl _, (by show (0 : Int) ≤ 10000; decide)⟩
      | some i => exact chg_le w0 w1 (ok i (List.mem_of_getElem? e))
    unfold reachN
    split
    · exact (ih j).mono (Nat.le_succ _)
    · rw [sqAt_set]
      split
      · exact lesserF_bd ((ih _).mono (Nat.le_succ _)) (plusK_bd (ih _) ck.1 ck.2)
      · exact (ih j).mono (Nat.le_succ _)
def reachR (w : Int) (is : List Itm) (S : List Fr2) : List Fr2 := reachN w is S (is.length - 1)
theorem owns_at_bd {ax : Nat} {c rate : Int} {is : List Itm} (c0 : 1 ≤ c) (c1 : c ≤ 50) (r1 : 10 ≤ rate) (r2 : rate ≤ 200) (ok : ∀ i ∈ is, OkI ax i) (j : Nat) : Bd 0 (sqAt (ownsF c rate is) j) := by
  by_cases h : j < (ownsF c rate is).length
  · exact ownsF_bd c0 c1 r1 r2 ok _ (sqAt_mem h)
  · unfold sqAt
    rw [List.getD_eq_getElem?_getD, List.getElem?_eq_none (by omega)]
    exact nought_bd
end GB
namespace GB
open PySem PySem.Spec PyProof.Rows L2
structure NmOk (z : Str) : Prop where
  l1 : 1 ≤ z.length
  l2 : z.length ≤ 8
  low : z.cps.toList.all lowB = true
theorem NmOk.ok {z : Str} (o : NmOk z) : PyData.strOk z = true := by
  unfold PyData.strOk
  rw [← Array.all_toList, List.all_eq_true]
  intro c m
  have := List.all_eq_true.mp o.low c m
  unfold lowB at this
  rw [Bool.and_eq_true, decide_eq_true_iff, decide_eq_true_iff] at this
  exact decide_eq_true (by omega)
def OkJ (ax : Nat) : Itm → Prop
  | .line xs s => LnOk ax xs s
  | .wait n => 1 ≤ n ∧ n ≤ 1000
  | .tool _ => True
  | .mark z => NmOk z
theorem OkJ.okI {ax : Nat} {i : Itm} (o : OkJ ax i) : OkI ax i := by
  cases i with
  | line xs s => exact o
  | _ => trivial
theorem OkJ.mk {ax : Nat} {i : Itm} (o : OkJ ax i) : MkOk i := by
  cases i with
  | wait n => have : 1 ≤ n ∧ n ≤ 1000 := o; exact ⟨by omega, by omega⟩
  | mark z => have o : NmOk z := o; exact ⟨o.ok, o.l2⟩
  | _ => trivial
theorem join0_cps {zs : List Str} : (Txt.join "" zs).cps.toList = (zs.map fun z => z.cps.toList).flatten := by
  show (Builtin.Str.glued "" zs).cps.toList = _
  have e0 : ("" : Str).cps = #[] := rfl
  have go : ∀ (l : List Str) (a : Array Nat), (l.foldl (fun acc p => acc ++ ("" : Str).cps ++ p.cps) a).toList = a.toList ++ (l.map fun z => z.cps.toList).flatten := fun l => by
    induction l with
    | nil => intro a; simp
    | cons z l ih =>
      intro a
      rw [List.foldl_cons, ih, e0]
      simp
  unfold Builtin.Str.glued
  cases zs with
  | nil => rfl
  | cons z zs => exact go zs z.cps
theorem letter_at {e : Int} (e0 : 0 ≤ e) (e1 : e < 26) : ∃ c, atI ("abcdefghijklmnopqrstuvwxyz" : Str).cps.toList e = some c ∧ lowB c = true := by
  have hl : ("abcdefghijklmnopqrstuvwxyz" : Str).cps.toList.length = 26 := by decide +kernel
  have ha : ∀ c ∈ ("abcdefghijklmnopqrstuvwxyz" : Str).cps.toList, lowB c = true := by decide +kernel
  obtain ⟨j, rfl⟩ : ∃ j : Nat, e = j := ⟨e.toNat, by omega⟩
  have hj : j < ("abcdefghijklmnopqrstuvwxyz" : Str).cps.toList.length := by rw [hl]; omega
  exact ⟨_, by rw [at_nat]; exact List.getElem?_eq_getElem hj, ha _ (List.getElem_mem hj)⟩
theorem signs_cs {ts ys : List T} (h : All2 (fun _ y => ∃ c, lowB c = true ∧ y = T.str ⟨#[c]⟩) ts ys) : ∃ cs : List Nat, strsL ys = some (cs.map fun c => (⟨#[c]⟩ : Str)) ∧ cs.length = ts.length ∧ cs.all lowB = true := by
  induction h with
  | nil => exact ⟨[], rfl, rfl, rfl⟩
  | cons q _ ih =>
    obtain ⟨c, hc, rfl⟩ := q
    obtain ⟨cs, h1, h2, h3⟩ := ih
    refine ⟨c :: cs, ?_, by simp [h2], by simp [hc, h3]⟩
    show (strsL _).map (_ :: ·) = _
    rw [h1]; rfl
theorem join_cs {cs : List Nat} : (Txt.join "" (cs.map fun c => (⟨#[c]⟩ : Str))).cps.toList = cs := by
  rw [join0_cps, List.map_map]
  induction cs with
  | nil => rfl
  | cons c cs ih => rw [List.map_cons, List.flatten_cons, ih]; rfl
theorem signs_low {ts ys : List T} (h : All2 (fun _ y => ∃ c, lowB c = true ∧ y = T.str ⟨#[c]⟩) ts ys) (l1 : 1 ≤ ts.length) (l2 : ts.length ≤ 8) : ∃ zs : List Str, strsL ys = some zs ∧ zs.length = ts.length ∧ (zs.map (·.length)).sum ≤ 16777216 ∧ NmOk (Txt.join "" zs) := by
  obtain ⟨cs, h1, h2, h3⟩ := signs_cs h
  have e : (Txt.join "" (cs.map fun c => (⟨#[c]⟩ : Str))).length = cs.length := by
    show (Txt.join "" (cs.map fun c => (⟨#[c]⟩ : Str))).cps.size = _
    rw [← Array.length_toList, join_cs]
  refine ⟨_, h1, by rw [List.length_map]; exact h2, ?_, by omega, by omega, by rw [join_cs]; exact h3⟩
  have s : ∀ l : List Nat, ((l.map fun c => (⟨#[c]⟩ : Str)).map (·.length)).sum = l.length := fun l => by
    induction l with
    | nil => rfl
    | cons c l ih => rw [List.map_cons, List.map_cons, List.sum_cons, ih, List.length_cons]; show 1 + l.length = l.length + 1; omega
  rw [s]; omega
theorem offF_app {rs : List Int} : ∀ {A B : List Itm} {ps : List Int}, offF rs ps (A ++ B) = match offF rs ps A with | some k => some k | none => (offF rs (endP ps A) B).map (· + A.length)
  | [], B, ps => by
    show offF rs ps B = (offF rs ps B).map (· + 0)
    cases offF rs ps B <;> rfl
  | i :: A, B, ps => by
    show (if plB rs (tupI (ledI ps i)) = true then (offF rs (ledI ps i) (A ++ B)).map (· + 1) else some 0) = match (if plB rs (tupI (ledI ps i)) = true then (offF rs (ledI ps i) A).map (· + 1) else some 0) with | some k => some k | none => (offF rs (endP ps (i :: A)) B).map (· + (i :: A).length)
    by_cases y : plB rs (tupI (ledI ps i)) = true
    · rw [if_pos y, if_pos y, offF_app]
      cases offF rs (ledI ps i) A with
      | some k => rfl
      | none =>
        show ((offF rs (endP (ledI ps i) A) B).map (· + A.length)).map (· + 1) = (offF rs (endP (ledI ps i) A) B).map (· + (A.length + 1))
        rw [Option.map_map]
        congr 1
    · rw [if_neg y, if_neg y]
theorem onr_plB {rs q : List Int} (lq : q.length = rs.length) (hp : plB rs (tupI q) = true) : OnR rs q := by
  rw [plB_ints lq, List.all_eq_true] at hp
  refine onr_of lq.symm fun k r x e1 e2 => ?_
  have m : (x, r) ∈ q.zip rs := List.mem_of_getElem? (i := k) (by rw [List.getElem?_zip_eq_some]; exact ⟨e2, e1⟩)
  have := hp _ (List.mem_map.mpr ⟨_, m, rfl⟩)
  simpa using this
end GB
namespace GB
open PySem PySem.Spec PyProof.Rows L2
/-- a box's item at a place from its beginning, taken out and told -/
def ePopX (b f : SE) : SE := fun τ h => (b τ h).bind fun x h1 =>
  match boxL h1 x with
  | some _ => (f τ h1).bind fun t h2 =>
    match t with
    | .int k => match boxL h2 x with
      | some p => if 0 ≤ k ∧ k < 4611686018427387904 then
          match p.2[k.toNat]? with
          | some u => .ok u (h2.set p.1 (.lst (p.2.eraseIdx k.toNat)))
          | none => .no
        else .no
      | none => .no
    | _ => .no
  | none => .no
/-- a box made longer by a list of its own, by a list that a name holds -/
def sExtX (b f : SE) : SS := fun τ h => (b τ h).fl τ fun x h1 =>
  match boxL h1 x with
  | some _ => (f τ h1).fl τ fun t h2 =>
    match t with
    | .lst us => match boxL h2 x with
      | some p => if p.2.length + us.length ≤ sizeLine then .nx τ (h2.set p.1 (.lst (p.2 ++ us))) else .no
      | none => .no
    | _ => .no
  | none => .no
def sExtXV (b : SE) (j : Nat) : SS := fun τ h => (b τ h).fl τ fun x h1 =>
  match boxL h1 x, τ[j]? with
  | some p, some (some (.lst us)) => if p.2.length + us.length ≤ sizeLine then .nx τ (h1.set p.1 (.lst (p.2 ++ us))) else .no
  | _, _ => .no
def isDct (c : Cn) (h : IH) : T → Option (Nat × List T)
  | .box n => match h[n]? with
    | some (.dct c' ts) => if c' = c then some (n, ts) else none
    | _ => none
  | _ => none
def eDGet (c : Cn) (i : Nat) (f : SE) : SE := fun τ h => (f τ h).bind fun x h1 =>
  match isDct c h1 x with
  | some p => Rs.of p.2[i]? h1
  | none => .no
def sDPut (c : Cn) (i : Nat) (fo fv : SE) : SS := fun τ h => (fv τ h).fl τ fun v h1 => (fo τ h1).fl τ fun x h2 =>
  match isDct c h2 x with
  | some p => if i ≤ p.2.length then .nx τ (h2.set p.1 (.dct c (putAt p.2 i v))) else .no
  | none => .no
/-- at a key that is reckoned, there already -/
def sDPutK (c : Cn) (fo fk fv : SE) : SS := fun τ h => (fv τ h).fl τ fun v h1 => (fo τ h1).fl τ fun x h2 => (fk τ h2).fl τ fun k h3 =>
  match k with
  | .str f => match c.fl.idxOf? f, isDct c h3 x with
    | some i, some p => if i < p.2.length then .nx τ (h3.set p.1 (.dct c (p.2.set i v))) else .no
    | _, _ => .no
  | _ => .no
def eDisp (c : Cn) (f : SA) : SE := fun τ h => (f τ h).bind fun ts h1 => .ok (.box h1.length) (h1 ++ [.dct c ts])
end GB
namespace GB
open PySem PySem.Spec PyProof.Rows L2
abbrev SG := Ev → IH → Rs (List T × (IH → Prop))
/-- a list, a box -/
def iG (f : SE) : SG := fun τ h => (f τ h).bind fun x h1 =>
  match asL h1 x with
  | some ts => .ok (ts, fun h' => asL h' x = some ts) h1
  | none => .no
def iEZG (f g : SE) : SG := fun τ h => (f τ h).bind fun x h1 => (g τ h1).bind fun y h2 =>
  match asL h2 x, asL h2 y with
  | some xs, some ys => .ok (enumL (zipT xs ys), fun h' => asL h' x = some xs ∧ asL h' y = some ys) h2
  | _, _ => .no
open Classical in
noncomputable def forGoG (gu : IH → Prop) (pt : Pat) (body : SS) : List T → SS
  | [], τ, h => if gu h then .nx τ h else .no
  | t :: ts, τ, h => if gu h then
      match bindP pt t τ with
      | none => .no
      | some τ1 => match body τ1 h with
        | .nx τ2 h2 => forGoG gu pt body ts τ2 h2
        | r => r
    else .no
noncomputable def sForG (it : SG) (pt : Pat) (body : SS) : SS := fun τ h => (it τ h).fl τ fun p h1 => forGoG p.2 pt body p.1 τ h1
open Classical in
noncomputable def lcGoG (gu : IH → Prop) (pt : Pat) (cond : SB) (elt : SE) (τw : Ev) : List T → IH → Rs (List T)
  | [], h => if gu h then .ok [] h else .no
  | t :: ts, h => if gu h then
      match bindP pt t τw with
      | none => .no
      | some τ1 => (nx (cond τ1 h)).bind fun b h1 => if b = true then (nx (elt τ1 h1)).bind fun y h2 => (lcGoG gu pt cond elt τw ts h2).bind fun ys h3 => .ok (y :: ys) h3 else lcGoG gu pt cond elt τw ts h1
    else .no
noncomputable def eLcG (it : SG) (own : List Nat) (pt : Pat) (cond : SB) (elt : SE) : SE := fun τ h => (it τ h).bind fun p h1 => (lcGoG p.2 pt cond elt (wipeT τ own) p.1 h1).bind fun ys h2 => if p.1.length ≤ sizeLine then .ok (.lst ys) h2 else .no
def eLRg2 (f g : SE) : SE := fun τ h => (f τ h).bind fun x h1 => (g τ h1).bind fun y h2 =>
  match x, y with
  | .int i, .int j => if 0 ≤ i ∧ i ≤ 16777216 ∧ 0 ≤ j ∧ j ≤ 16777216 then .ok (.lst (rngL i (j - i).toNat 1)) h2 else .no
  | _, _ => .no
def sRevX (b : SE) : SS := fun τ h => (b τ h).fl τ fun x h1 =>
  match boxL h1 x with
  | some p => .nx τ (h1.set p.1 (.lst p.2.reverse))
  | none => .no
end GB
namespace GB
open PySem PySem.Spec PyProof.Rows L2
abbrev Th := IH → Rs T
/-- x(lambda: body), the def x told the body's reading -/
def eLam (n : Nat) (x : Str) (F : Th → IH → Rs T) (fb : SE) : SE := fun τ h =>
  match h[n]? with
  | some (.tbl y) => if y = x then F (fun h1 => fb τ h1) h else .no
  | _ => .no
section
variable {X : Cx} {x : XI} {en : Ent} {rk : Kd} {lin : List Nat} {o a : Expr} {fo fa : SE} {pos apos cpos : Pos}
theorem xphi.wr {K : PySem.W.Frag} {σ : L2.St} {G : Hp} {R : List Addr} {H : Hp} {b : Addr} {u : HO} (p : x.at K σ G R H) (m : b ∈ R) : x.at K σ G R (upd H b u) :=
  ⟨p.1, fun ne => let ⟨dd, fs, h1, h2, h3, h4⟩ := p.2 ne; ⟨dd, fs, h1, by rw [upd_ne (show dd ≠ b from fun z => h3 (by rw [z]; exact m))]; exact h2, h3, h4⟩⟩
end
def blsOf : List T → Option (List Bool)
  | [] => some []
  | .bl b :: r => (blsOf r).map (b :: ·)
  | _ => none
def eCnt (f : SE) : SE := fun τ h => (f τ h).bind fun x h1 =>
  match (asL h1 x).bind blsOf with
  | some bs => .ok (.int (bs.count true : Nat)) h1
  | none => .no
def eIdx (f : SE) : SE := fun τ h => (f τ h).bind fun x h1 =>
  match (asL h1 x).bind blsOf with
  | some bs => if true ∈ bs then .ok (.int (bs.idxOf true : Nat)) h1 else .no
  | none => .no
end GB
namespace GB
open PySem PySem.Spec PyProof.Rows L2
def dputs (c : Cn) (fo : SE) : List Nat → List T → SS
  | [], [] => fun τ h => .nx τ h
  | i :: is, t :: ts => fun τ h => (fo τ h).fl τ fun x h2 =>
    match isDct c h2 x with
    | some p => if i ≤ p.2.length then dputs c fo is ts τ (h2.set p.1 (.dct c (putAt p.2 i t))) else .no
    | none => .no
  | _, _ => fun _ _ => .no
def sDPuts (c : Cn) (is : List Nat) (fo fv : SE) : SS := fun τ h => (fv τ h).fl τ fun v h1 =>
  match v with
  | .tup ts => if ts.length = is.length then dputs c fo is ts τ h1 else .no
  | _ => .no
theorem len_1 {α : Type} {P : List α → Prop} (us : List α) (hl : us.length = 1) (h : ∀ a0, P [a0]) : P us := by
  match us, hl with
  | [a0], _ => exact h a0
theorem len_2 {α : Type} {P : List α → Prop} (us : List α) (hl : us.length = 2) (h : ∀ a0 a1, P [a0, a1]) : P us := by
  match us, hl with
  | [a0, a1], _ => exact h a0 a1
theorem len_3 {α : Type} {P : List α → Prop} (us : List α) (hl : us.length = 3) (h : ∀ a0 a1 a2, P [a0, a1, a2]) : P us := by
  match us, hl with
  | [a0, a1, a2], _ => exact h a0 a1 a2
end GB
namespace GB
open PySem PySem.Spec PyProof.Rows L2
def gSplit : G2 := fun x y _ =>
  match x, y with
  | .str a, .str b => if (b.length == 0) = false ∧ a.length + 2 ≤ sizeLine then some (.lst ((Txt.split a b).map T.str)) else none
  | _, _ => none
def eSplit (f g : SE) : SE := fun τ h => (f τ h).bind fun x h1 =>
  match x with
  | .str z => (g τ h1).bind fun y h2 => Rs.of (gSplit (.str z) y h2) h2
  | _ => .no
section
variable {X : Cx} {E : WX} {lin : List Nat} {kd k1 k2 : Kd} {a b : Expr} {fa fb : SE} {pos apos : Pos}
theorem rpl_strs {K : PySem.W.Frag} {G : Hp} {R : List Addr} : ∀ ys : List Str, RpL K G R (ys.map T.str) (ys.map V.str)
  | [] => .nil
  | y :: ys => .cons (.str y) (rpl_strs ys)
theorem pb_split (ha : PEB X E lin k1 a fa) (hb : PEB X E lin k2 b fb) (hs : starEach [b] X.env = [(false, eval b X.env)] := by rfl) (hbase : attributeBase a "split" X.env (eval a X.env) = eval a X.env := by rfl) (hline : (apos.endLine == pos.line) = true := by rfl) :
    PEB X E lin .own (.Call (.Attribute a "split" apos) [b] [] pos) (eSplit fa fb) := impE (pe_split ha hb hs hbase hline) fun σ H Q ⟨G, R, τ, h, N0, gd, fr, o⟩ => by
  refine lE.then gd fr o fun x vx h1 G1 R1 H1 g1 e1 f1 r1 o1 => ?_
  cases x with
  | str z0 =>
    refine ⟨⟨z0, Live.str (Res.live r1)⟩, ?_⟩
    refine lE.then g1 f1 o1 fun y vy h2 G2 R2 H2 g2 e2 f2 r2 o2 => ?_
    cases y with
    | str z1 =>
      cases q : gSplit (.str z0) (.str z1) h2 with
      | none => rw [q] at o2; exact o2.elim
      | some z =>
        rw [q] at o2
        have q' : (if (z1.length == 0) = false ∧ z0.length + 2 ≤ sizeLine then some (T.lst ((Txt.split z0 z1).map T.str)) else none) = some z := q
        split at q'
        · rename_i hz
          cases q'
          refine ⟨z0, z1, Live.str (Res.live r1), by rw [Live.str (Res.live r2)], hz.1, hz.2, fun p np => ?_⟩
          obtain ⟨g3, e3, n, m⟩ := g2.newO (o := .lst ((Txt.split z0 z1).map V.str)) np
          exact o2 _ _ _ g3 e3 _ (Res.back g2 (e1.trans gd g2 e2) ⟨_, p, _, rfl, rfl, upd_same, m, n, np, rpl_strs _⟩)
        · cases q'
    | _ => exact o2.elim
  | _ => exact o1.elim
end
end GB
namespace GB
open PySem PySem.Spec PyProof.Rows L2
section
variable {τ : Ev} {h : IH} {f g k : SE} {fs : SA} {c : Cn} {i : Nat} {P : T → IH → Prop} {N : Ev → IH → Prop} {M : T → IH → Prop}
theorem some_all {α : Type} {o : Option α} {p : α → Prop} {q : Prop} (h0 : o = none → (q → False)) (h1 : ∀ x, o = some x → (q ↔ p x)) : q = ∃ x, o = some x ∧ p x := by
  cases e : o with
  | none => exact propext ⟨fun z => (h0 e z).elim, fun ⟨_, z, _⟩ => nomatch z⟩
  | some x => exact propext ⟨fun z => ⟨x, rfl, (h1 x e).mp z⟩, fun ⟨_, z, k⟩ => by cases z; exact (h1 x e).mpr k⟩
theorem w_DGet : Ok (eDGet c i f τ h) P = Ok (f τ h) fun x h1 => ∃ p, isDct c h1 x = some p ∧ ∃ t, p.2[i]? = some t ∧ P t h1 := by
  unfold eDGet
  rw [w_bind]
  congr 1; funext x h1
  refine some_all (fun e z => ?_) fun p e => ?_
  · rw [e] at z; exact z.out.elim
  · rw [e]; dsimp only; rw [w_of]
theorem w_Disp : Ok (eDisp c fs τ h) P = Ok (fs τ h) fun ts h1 => P (.box h1.length) (h1 ++ [.dct c ts]) := by
  unfold eDisp
  rw [w_bind]
  congr 1; funext ts h1
  rw [w_ok]
theorem v_DPut : OkS (sDPut c i f g τ h) N M = Ok (g τ h) fun v h1 => Ok (f τ h1) fun x h2 => ∃ p, isDct c h2 x = some p ∧ i ≤ p.2.length ∧ N τ (h2.set p.1 (.dct c (putAt p.2 i v))) := by
  unfold sDPut
  rw [w_fl]
  congr 1; funext v h1
  rw [w_fl]
  congr 1; funext x h2
  refine some_all (fun e z => ?_) fun p e => ?_
  · rw [e] at z; exact z.out.elim
  · rw [e]; dsimp only; rw [v_iteN, v_nx]
theorem v_DPutK : OkS (sDPutK c f k g τ h) N M = Ok (g τ h) fun v h1 => Ok (f τ h1) fun x h2 => Ok (k τ h2) fun y h3 => ∃ z, y = .str z ∧ ∃ i, c.fl.idxOf? z = some i ∧ ∃ p, isDct c h3 x = some p ∧ i < p.2.length ∧ N τ (h3.set p.1 (.dct c (p.2.set i v))) := by
  unfold sDPutK
  rw [w_fl]
  congr 1; funext v h1
  rw [w_fl]
  congr 1; funext x h2
  rw [w_fl]
  congr 1; funext y h3
  cases y with
  | str z =>
    dsimp only
    cases e1 : c.fl.idxOf? z with
    | none => exact propext ⟨fun q => q.out.elim, fun ⟨_, e, _, z, _⟩ => by cases e; rw [e1] at z; cases z⟩
    | some i =>
      cases e2 : isDct c h3 x with
      | none => exact propext ⟨fun q => q.out.elim, fun ⟨_, e, _, _, _, z, _⟩ => by cases z⟩
      | some p =>
        dsimp only
        rw [v_iteN, v_nx]
        exact propext ⟨fun q => ⟨z, rfl, i, e1, p, rfl, q⟩, fun ⟨_, e, _, e3, _, e4, q⟩ => by cases e; rw [e1] at e3; cases e3; cases e4; exact q⟩
  | _ => exact propext ⟨fun q => q.out.elim, fun ⟨_, e, _⟩ => nomatch e⟩
theorem w_PopX : Ok (ePopX f g τ h) P = Ok (f τ h) fun x h1 => (∃ p, boxL h1 x = some p) ∧ Ok (g τ h1) fun t h2 => ∃ k, t = .int k ∧ ∃ p, boxL h2 x = some p ∧ (0 ≤ k ∧ k < 4611686018427387904) ∧ ∃ u, p.2[k.toNat]? = some u ∧ P u (h2.set p.1 (.lst (p.2.eraseIdx k.toNat))) := by
  unfold ePopX
  rw [w_bind]
  congr 1; funext x h1
  cases e : boxL h1 x with
  | none => exact propext ⟨fun q => q.out.elim, fun ⟨⟨_, z⟩, _⟩ => nomatch z⟩
  | some p0 =>
    dsimp only
    rw [w_bind]
    refine Eq.trans (congrArg (Ok (g τ h1)) (funext fun t => funext fun h2 => (?_ : _ = ∃ k, t = T.int k ∧ ∃ p, boxL h2 x = some p ∧ (0 ≤ k ∧ k < 4611686018427387904) ∧ ∃ u, p.2[k.toNat]? = some u ∧ P u (h2.set p.1 (.lst (p.2.eraseIdx k.toNat)))))) ?_
    · cases t with
      | int k =>
        dsimp only
        cases e2 : boxL h2 x with
        | none => exact propext ⟨fun q => q.out.elim, fun ⟨_, _, _, z, _⟩ => nomatch z⟩
        | some p =>
          dsimp only
          rw [w_iteN]
          refine propext ⟨fun ⟨a, b⟩ => ⟨k, rfl, p, rfl, a, ?_⟩, fun ⟨_, z, _, z2, a, u, eu, b⟩ => ?_⟩
          · cases eu : p.2[k.toNat]? with
            | none => rw [eu] at b; exact b.out.elim
            | some u => rw [eu] at b; dsimp only at b; rw [w_ok] at b; exact ⟨u, rfl, b⟩
          · cases z; cases z2
            refine ⟨a, ?_⟩
            rw [eu]; dsimp only; rw [w_ok]; exact b
      | _ => exact propext ⟨fun q => q.out.elim, fun ⟨_, z, _⟩ => nomatch z⟩
    · exact propext ⟨fun q => ⟨⟨p0, rfl⟩, q⟩, fun q => q.2⟩
theorem v_ExtX : OkS (sExtX f g τ h) N M = Ok (f τ h) fun x h1 => (∃ p, boxL h1 x = some p) ∧ Ok (g τ h1) fun t h2 => ∃ us, t = .lst us ∧ ∃ p, boxL h2 x = some p ∧ p.2.length + us.length ≤ sizeLine ∧ N τ (h2.set p.1 (.lst (p.2 ++ us))) := by
  unfold sExtX
  rw [w_fl]
  congr 1; funext x h1
  cases e : boxL h1 x with
  | none => exact propext ⟨fun q => q.out.elim, fun ⟨⟨_, z⟩, _⟩ => nomatch z⟩
  | some p0 =>
    dsimp only
    rw [w_fl]
    refine Eq.trans (congrArg (Ok (g τ h1)) (funext fun t => funext fun h2 => (?_ : _ = ∃ us, t = T.lst us ∧ ∃ p, boxL h2 x = some p ∧ p.2.length + us.length ≤ sizeLine ∧ N τ (h2.set p.1 (.lst (p.2 ++ us)))))) ?_
    · cases t with
      | lst us =>
        dsimp only
        cases e2 : boxL h2 x with
        | none => exact propext ⟨fun q => q.out.elim, fun ⟨_, _, _, z, _⟩ => nomatch z⟩
        | some p =>
          dsimp only
          rw [v_iteN, v_nx]
          exact propext ⟨fun q => ⟨us, rfl, p, rfl, q⟩, fun ⟨_, z, _, z2, q⟩ => by cases z; cases z2; exact q⟩
      | _ => exact propext ⟨fun q => q.out.elim, fun ⟨_, z, _⟩ => nomatch z⟩
    · exact propext ⟨fun q => ⟨⟨p0, rfl⟩, q⟩, fun q => q.2⟩
theorem v_ExtXV {j : Nat} : OkS (sExtXV f j τ h) N M = Ok (f τ h) fun x h1 => ∃ p, boxL h1 x = some p ∧ ∃ us, τ[j]? = some (some (.lst us)) ∧ p.2.length + us.length ≤ sizeLine ∧ N τ (h1.set p.1 (.lst (p.2 ++ us))) := by
  unfold sExtXV
  rw [w_fl]
  congr 1; funext x h1
  split
  · rename_i p us e1 e2
    rw [v_iteN, v_nx, e1]
    exact propext ⟨fun q => ⟨p, rfl, us, e2, q⟩, fun ⟨_, z, _, z2, q⟩ => by cases z; rw [e2] at z2; cases z2; exact q⟩
  · rename_i no
    exact propext ⟨fun q => q.out.elim, fun ⟨p, e1, us, e2, _⟩ => (no p us e1 e2).elim⟩
theorem w_LRg2 : Ok (eLRg2 f g τ h) P = Ok (f τ h) fun x h1 => Ok (g τ h1) fun y h2 => ∃ i j, x = .int i ∧ y = .int j ∧ (0 ≤ i ∧ i ≤ 16777216 ∧ 0 ≤ j ∧ j ≤ 16777216) ∧ P (.lst (rngL i (j - i).toNat 1)) h2 := by
  unfold eLRg2
  rw [w_bind]
  congr 1; funext x h1
  rw [w_bind]
  congr 1; funext y h2
  split
  · rename_i i j
    rw [w_iteN, w_ok]
    exact propext ⟨fun q => ⟨i, j, rfl, rfl, q⟩, fun ⟨_, _, z, z2, q⟩ => by cases z; cases z2; exact q⟩
  · rename_i no
    exact propext ⟨fun q => q.out.elim, fun ⟨i, j, e1, e2, _⟩ => (no i j e1 e2).elim⟩
variable {PG : List T × (IH → Prop) → IH → Prop} {it : SG} {pt : Pat} {sa : SB} {own : List Nat} {body : SS} {gu : IH → Prop}
theorem w_iG : Ok (iG f τ h) PG = Ok (f τ h) fun x h1 => ∃ ts, asL h1 x = some ts ∧ PG (ts, fun h' => asL h' x = some ts) h1 := by
  unfold iG
  rw [w_bind]
  congr 1; funext x h1
  refine some_all (fun e z => ?_) fun p e => ?_
  · rw [e] at z; exact z.out.elim
  · rw [e]; dsimp only; rw [w_ok]
theorem w_iEZG : Ok (iEZG f g τ h) PG = Ok (f τ h) fun x h1 => Ok (g τ h1) fun y h2 => ∃ xs, asL h2 x = some xs ∧ ∃ ys, asL h2 y = some ys ∧ PG (enumL (zipT xs ys), fun h' => asL h' x = some xs ∧ asL h' y = some ys) h2 := by
  unfold iEZG
  rw [w_bind]
  congr 1; funext x h1
  rw [w_bind]
  congr 1; funext y h2
  cases e1 : asL h2 x with
  | none => exact propext ⟨fun q => q.out.elim, fun ⟨_, z, _⟩ => nomatch z⟩
  | some xs =>
    cases e2 : asL h2 y with
    | none => exact propext ⟨fun q => q.out.elim, fun ⟨_, _, _, z, _⟩ => nomatch z⟩
    | some ys =>
      dsimp only
      rw [w_ok]
      exact propext ⟨fun q => ⟨xs, rfl, ys, rfl, q⟩, fun ⟨_, z, _, z2, q⟩ => by cases z; cases z2; exact q⟩
theorem w_LcG : Ok (eLcG it own pt sa f τ h) P = Ok (it τ h) fun p h1 => Ok (lcGoG p.2 pt sa f (wipeT τ own) p.1 h1) fun ys h2 => p.1.length ≤ sizeLine ∧ P (.lst ys) h2 := by
  unfold eLcG
  rw [w_bind]
  congr 1; funext p h1
  rw [w_bind]
  congr 1; funext ys h2
  rw [w_iteN, w_ok]
theorem v_ForG : OkS (sForG it pt body τ h) N M = Ok (it τ h) fun p h1 => OkS (forGoG p.2 pt body p.1 τ h1) N M := by
  unfold sForG
  rw [w_fl]
end
theorem v_RevX {τ : Ev} {h : IH} {f : SE} {N : Ev → IH → Prop} {M : T → IH → Prop} : OkS (sRevX f τ h) N M = Ok (f τ h) fun x h1 => ∃ p, boxL h1 x = some p ∧ N τ (h1.set p.1 (.lst p.2.reverse)) := by
  unfold sRevX
  rw [w_fl]
  congr 1; funext x h1
  refine some_all (fun e z => ?_) fun p e => ?_
  · rw [e] at z; exact z.out.elim
  · rw [e]; dsimp only; rw [v_nx]
end GB
namespace GB
open PySem PySem.Spec PyProof.Rows L2
structure Zq (V : Int) (K : Nat) (f : Fr2) : Prop where
  fq : Fq f.1 f.2
  nn : 0 ≤ f.1
  hi : f.1 ≤ V * f.2
  sz : f.2.natAbs < 2 ^ K
section
variable {V W V' : Int} {K L K' : Nat} {f g : Fr2} {p q k C : Int}
theorem pow_up {a K L : Nat} (h : a < 2 ^ K) (l : K ≤ L) : a < 2 ^ L := Nat.lt_of_lt_of_le h (Nat.pow_le_pow_right (by decide) l)
theorem Zq.wk (z : Zq V K f) (h : V ≤ V') (l : K ≤ K') : Zq V' K' f := ⟨z.fq, z.nn, Int.le_trans z.hi (Int.mul_le_mul_of_nonneg_right h (Int.le_of_lt z.fq.pos)), pow_up z.sz l⟩
theorem zq_plusK (z : Zq V K f) (k0 : 0 ≤ k) : Zq (V + k) K (plusK f k) := ⟨plusK_fq z.fq, by
  show 0 ≤ f.1 + k * f.2
  have := Int.mul_nonneg k0 (Int.le_of_lt z.fq.pos)
  have := z.nn; omega, by
  show f.1 + k * f.2 ≤ (V + k) * f.2
  rw [Int.add_mul]
  have := z.hi; omega, z.sz⟩
theorem low_parts (q0 : 0 < q) : ∃ g : Int, 0 < g ∧ p = g * (lowF p q).1 ∧ q = g * (lowF p q).2 := by
  refine ⟨(Int.gcd p q : Int), gcd_pos_of q0, ?_, ?_⟩
  · show p = (Int.gcd p q : Int) * (p / (Int.gcd p q : Int))
    exact (Int.mul_ediv_cancel' (Int.gcd_dvd_left ..)).symm
  · show q = (Int.gcd p q : Int) * (q / (Int.gcd p q : Int))
    exact (Int.mul_ediv_cancel' (Int.gcd_dvd_right ..)).symm
theorem low_fq (q0 : 0 < q) : Fq (lowF p q).1 (lowF p q).2 := fq_of q0
theorem low_le (q0 : 0 < q) : p ≤ C * q ↔ (lowF p q).1 ≤ C * (lowF p q).2 := by
  obtain ⟨g, g0, e1, e2⟩ := low_parts (p := p) q0
  generalize (lowF p q).1 = a at *
  generalize (lowF p q).2 = b at *
  rw [e1, e2, Int.mul_left_comm]
  exact ⟨fun h => Int.le_of_mul_le_mul_left h g0, fun h => Int.mul_le_mul_of_nonneg_left h (Int.le_of_lt g0)⟩
theorem low_ge (q0 : 0 < q) : q ≤ C * p ↔ (lowF p q).2 ≤ C * (lowF p q).1 := by
  obtain ⟨g, g0, e1, e2⟩ := low_parts (p := p) q0
  generalize (lowF p q).1 = a at *
  generalize (lowF p q).2 = b at *
  rw [e1, e2, Int.mul_left_comm]
  exact ⟨fun h => Int.le_of_mul_le_mul_left h g0, fun h => Int.mul_le_mul_of_nonneg_left h (Int.le_of_lt g0)⟩
theorem low_nn (q0 : 0 < q) (p0 : 0 ≤ p) : 0 ≤ (lowF p q).1 := by
  obtain ⟨g, g0, e1, e2⟩ := low_parts (p := p) q0
  rw [e1] at p0
  exact Int.nonneg_of_mul_nonneg_right p0 g0
theorem low_den (q0 : 0 < q) : (lowF p q).2 ≤ q := by
  obtain ⟨g, g0, e1, e2⟩ := low_parts (p := p) q0
  have b := (low_fq (p := p) q0).pos
  have : 1 * (lowF p q).2 ≤ g * (lowF p q).2 := Int.mul_le_mul_of_nonneg_right (by omega) (by omega)
  omega
theorem zq_low (q0 : 0 < q) (p0 : 0 ≤ p) (h : p ≤ V * q) (s : q.natAbs < 2 ^ K) : Zq V K (lowF p q) := by
  have d := low_den (p := p) q0
  have b := (low_fq (p := p) q0).pos
  exact ⟨low_fq q0, low_nn q0 p0, (low_le q0).mp h, Nat.lt_of_le_of_lt (by omega) s⟩
theorem zq_lesser (a : Zq V K f) (b : Zq W K g) : Zq V K (lesserF f g) := by
  unfold lesserF
  split
  · rename_i h
    refine ⟨b.fq, b.nn, ?_, b.sz⟩
    have h2 : f.1 * g.2 ≤ V * f.2 * g.2 := Int.mul_le_mul_of_nonneg_right a.hi (Int.le_of_lt b.fq.pos)
    have h3 : g.1 * f.2 ≤ (V * g.2) * f.2 := by
      have e : V * f.2 * g.2 = V * g.2 * f.2 := by ac_rfl
      omega
    exact Int.le_of_mul_le_mul_right h3 a.fq.pos
  · exact a
theorem zq_lesserR (a : Zq V K f) (b : Zq W K g) : Zq W K (lesserF f g) := by
  unfold lesserF
  split
  · exact b
  · rename_i h
    refine ⟨a.fq, a.nn, ?_, a.sz⟩
    have h2 : g.1 * f.2 ≤ W * g.2 * f.2 := Int.mul_le_mul_of_nonneg_right b.hi (Int.le_of_lt a.fq.pos)
    have h3 : f.1 * g.2 ≤ (W * f.2) * g.2 := by
      have e : W * g.2 * f.2 = W * f.2 * g.2 := by ac_rfl
      omega
    exact Int.le_of_mul_le_mul_right h3 b.fq.pos
/-- nought, or not too small -/
def LoF (f : Fr2) : Prop := f.1 = 0 ∨ f.2 ≤ 10 ^ 13 * f.1
theorem lo_lesser (a : LoF f) (b : LoF g) : LoF (lesserF f g) := by unfold lesserF; split <;> assumption
theorem lo_plus (q : 0 < f.2) (n : 0 ≤ f.1) (k1 : 1 ≤ k) : (plusK f k).2 ≤ 10 ^ 13 * (plusK f k).1 := by
  show f.2 ≤ 10 ^ 13 * (f.1 + k * f.2)
  have : 1 * f.2 ≤ k * f.2 := Int.mul_le_mul_of_nonneg_right k1 (by omega)
  omega
theorem lo_small (q : f.2 ≤ 10 ^ 13) (n : 0 ≤ f.1) : LoF f := by
  by_cases z : f.1 = 0
  · exact .inl z
  · refine .inr (by omega)
/-- a square as a step has it -/
structure SqZ (K : Nat) (f : Fr2) : Prop where
  z : Zq (2 ^ 80) K f
  pos : 1 ≤ f.1
  lo : f.2 ≤ 10 ^ 14 * f.1
theorem sqz_lesser (a : SqZ K f) (b : SqZ K g) : SqZ K (lesserF f g) := by unfold lesserF; split <;> assumption
theorem SqZ.wk (a : SqZ K f) (h : K ≤ K') : SqZ K' f := ⟨a.z.wk (Int.le_refl _) h, a.pos, a.lo⟩
theorem sqz_plus (z : Zq V K f) (v : V + k ≤ 2 ^ 80) (k1 : 1 ≤ k) : SqZ K (plusK f k) := by
  have l := lo_plus z.fq.pos z.nn k1
  have q := z.fq.pos
  have n := (zq_plusK z (k := k) (by omega)).nn
  have q2 : (plusK f k).2 = f.2 := rfl
  exact ⟨(zq_plusK z (by omega)).wk v (Nat.le_refl _), by omega, by omega⟩
theorem zq_times {u v : Int} (a : Zq V K f) (u0 : 0 ≤ u) (uv : u ≤ v) (v1 : 1 ≤ v) (v2 : v.natAbs < 2 ^ 11) : Zq V (K + 11) (timesF f (lowF u v)) := by
  have b := (low_fq (p := u) (q := v) (by omega)).pos
  have n := low_nn (p := u) (q := v) (by omega) u0
  have d := low_den (p := u) (q := v) (by omega)
  have r : (lowF u v).1 ≤ 1 * (lowF u v).2 := (low_le (by omega)).mp (by omega)
  have q0 := a.fq.pos
  refine zq_low (Int.mul_pos q0 b) (Int.mul_nonneg a.nn n) ?_ ?_
  · have h1 : f.1 * (lowF u v).1 ≤ f.1 * (lowF u v).2 := Int.mul_le_mul_of_nonneg_left (by omega) a.nn
    have h2 : f.1 * (lowF u v).2 ≤ V * f.2 * (lowF u v).2 := Int.mul_le_mul_of_nonneg_right a.hi (by omega)
    rw [← Int.mul_assoc]
    omega
  · rw [Int.natAbs_mul, Nat.pow_add]
    exact Nat.mul_lt_mul_of_lt_of_lt a.sz (Nat.lt_of_le_of_lt (by omega) v2)
theorem times_ge {u v : Int} (q0 : 0 < f.2) (v1 : 1 ≤ v) (h : f.2 * v ≤ C * (f.1 * u)) : (timesF f (lowF u v)).2 ≤ C * (timesF f (lowF u v)).1 := by
  have b := (low_fq (p := u) (q := v) (by omega)).pos
  refine (low_ge (Int.mul_pos q0 b)).mp ?_
  obtain ⟨g, g0, e1, e2⟩ := low_parts (p := u) (q := v) (by omega)
  generalize (lowF u v).1 = x at *
  generalize (lowF u v).2 = y at *
  rw [e1, e2] at h
  have h2 : g * (f.2 * y) ≤ g * (C * (f.1 * x)) := by
    have l1 : f.2 * (g * y) = g * (f.2 * y) := by ac_rfl
    have l2 : C * (f.1 * (g * x)) = g * (C * (f.1 * x)) := by ac_rfl
    omega
  exact Int.le_of_mul_le_mul_left h2 g0
theorem lowF_0 (q0 : 0 < q) : lowF 0 q = (0, 1) := by
  unfold lowF
  rw [Int.gcd_zero_left]
  have e : (q.natAbs : Int) = q := by omega
  rw [e, Int.zero_ediv, Int.ediv_self (by omega)]
theorem times_0 {v : Int} (q0 : 0 < f.2) (v1 : 1 ≤ v) : timesF f (lowF 0 v) = nought := by
  unfold timesF
  rw [lowF_0 (by omega)]
  show lowF (f.1 * 0) (f.2 * 1) = _
  rw [Int.mul_zero, lowF_0 (by omega)]
  rfl
theorem top_zq {s rate : Int} (s1 : 1 ≤ s) (s2 : s ≤ 20) (r1 : 10 ≤ rate) (r2 : rate ≤ 200) : Zq 1600 14 (topF s rate) ∧ 1 ≤ (topF s rate).1 ∧ (topF s rate).2 ≤ 10000 := by
  have h1 : s * rate ≤ 20 * 200 := Int.mul_le_mul s2 r2 (by omega) (by decide)
  have h0 : 1 * 10 ≤ s * rate := Int.mul_le_mul s1 r1 (by decide) (by omega)
  have h2 : (s * rate) * (s * rate) ≤ 4000 * 4000 := Int.mul_le_mul (by omega) (by omega) (by omega) (by decide)
  have h3 : 10 * 10 ≤ (s * rate) * (s * rate) := Int.mul_le_mul (by omega) (by omega) (by decide) (by omega)
  have z : Zq 1600 14 (topF s rate) := zq_low (by decide) (by omega) (by omega) (by decide)
  have d : (topF s rate).2 ≤ 10000 := low_den (by decide)
  have l : (topF s rate).2 ≤ 100 * (topF s rate).1 := (low_ge (by decide)).mp (by omega)
  have p := z.fq.pos
  exact ⟨z, by omega, d⟩
theorem top_sqz {s rate : Int} (s1 : 1 ≤ s) (s2 : s ≤ 20) (r1 : 10 ≤ rate) (r2 : rate ≤ 200) : SqZ 14 (topF s rate) := by
  obtain ⟨z, p, d⟩ := top_zq s1 s2 r1 r2
  exact ⟨z.wk (by decide) (Nat.le_refl _), p, by omega⟩
theorem Bd.zq {n : Nat} (b : Bd n f) (h : n ≤ 1000) : Zq (10 ^ 22) 44 f ∧ LoF f := by
  have q := b.fq.pos
  have hi := b.hi
  have h2 : ((n : Int) + 1) * 10 ^ 18 ≤ 1001 * 10 ^ 18 := Int.mul_le_mul_of_nonneg_right (by omega) (by decide)
  have qm := b.qm
  refine ⟨⟨b.fq, b.lo, ?_, ?_⟩, lo_small b.qm b.lo⟩
  · omega
  · have : (2 : Nat) ^ 44 = 17592186044416 := by decide
    omega
end
structure RSt where
  m : T
  spot : List Int
  goal : List Int
  pace : Fr2
  rate : Int
  side : T
  name : T
  queue : List Itm
  reach : List Fr2
  gone : Int
  brake : Option (Fr2 × Int)
  braked : Int
def bkT : Option (Fr2 × Int) → T
  | none => .non
  | some (f, n) => .tup [frt f, .int n]
def rsF (s : RSt) (q r : Nat) : List T := [s.m, tupI s.spot, tupI s.goal, frt s.pace, .int s.rate, s.side, s.name, .box q, .box r, .int s.gone, bkT s.brake, .int s.braked]
def cnR : Cn := ⟨"Runner", ["machine", "spot", "goal", "pace", "percent", "side", "name", "queue", "reach", "gone", "brake", "braked"]⟩
structure RunQ (h : IH) (n q r : Nat) (s : RSt) : Prop where
  o : h[n]? = some (.obj cnR (rsF s q r))
  eq : h[q]? = some (.lst (itL s.queue))
  er : h[r]? = some (.lst (frL s.reach))
  qr : q ≠ r
theorem RunQ.nq {h : IH} {n q r : Nat} {s : RSt} (R : RunQ h n q r s) : n ≠ q := fun z => by
  have := R.o; rw [z, R.eq] at this; cases this
theorem RunQ.nr {h : IH} {n q r : Nat} {s : RSt} (R : RunQ h n q r s) : n ≠ r := fun z => by
  have := R.o; rw [z, R.er] at this; cases this
/-- all but some cells stay -/
structure Kp (ns : List Nat) (h h' : IH) : Prop where
  len : h.length ≤ h'.length
  at_ : ∀ j, j < h.length → j ∉ ns → h'[j]? = h[j]?
theorem Kp.refl {ns : List Nat} {h : IH} : Kp ns h h := ⟨Nat.le_refl _, fun _ _ _ => rfl⟩
theorem Kp.trans {ns ms : List Nat} {h h1 h2 : IH} (a : Kp ns h h1) (b : Kp ms h1 h2) (s : ∀ j ∈ ms, j ∈ ns ∨ h.length ≤ j) : Kp ns h h2 := ⟨Nat.le_trans a.len b.len, fun j hj nj => by
  rw [b.at_ j (Nat.lt_of_lt_of_le hj a.len) fun m => (s j m).elim nj fun z => absurd hj (by omega)]
  exact a.at_ j hj nj⟩
theorem kp_set {h : IH} {n : Nat} {c : Cell} {ns : List Nat} (m : n ∈ ns) : Kp ns h (h.set n c) := ⟨by rw [List.length_set]; exact Nat.le_refl _, fun j _ nj => by
  have z : n ≠ j := fun z => nj (z ▸ m)
  exact List.getElem?_set_ne z⟩
theorem Kp.get {ns : List Nat} {h h' : IH} (k : Kp ns h h') {j : Nat} {c : Cell} (e : h[j]? = some c) (n : j ∉ ns) : h'[j]? = some c := by
  rw [k.at_ j (List.getElem?_eq_some_iff.mp e).1 n]; exact e
theorem RunQ.kp {h h' : IH} {n q r : Nat} {s : RSt} {ns : List Nat} (R : RunQ h n q r s) (k : Kp ns h h') (hn : n ∉ ns) (hq : q ∉ ns) (hr : r ∉ ns) : RunQ h' n q r s := ⟨k.get R.o hn, k.get R.eq hq, k.get R.er hr, R.qr⟩
/-- the square of the next step, and the one behind it -/
def sqOn (a w : Int) (s : RSt) (xs : List Int) (sp : Int) : Fr2 × Fr2 :=
  (lesserF (lesserF (plusK s.pace a) (topF sp s.rate)) (plusK (sqAt s.reach 1) (w * (2 * (lead xs - s.gone) - 1))),
   lesserF (lesserF (plusK s.pace (2 * a)) (topF sp s.rate)) (plusK (sqAt s.reach 1) (2 * w * ((lead xs - s.gone) - 1))))
def slowF (s : RSt) (p : Fr2 × Fr2) : Fr2 × Fr2 :=
  match s.brake with
  | none => p
  | some (st, many) => (lesserF p.1 (timesF st (lowF (2 * (many - (s.braked + 1)) + 1) (2 * many))), lesserF p.2 (timesF st (lowF (many - (s.braked + 1)) many)))
def popR (s : RSt) : RSt := { s with queue := s.queue.tail, reach := s.reach.tail, gone := 0 }
def brkN (s : RSt) : Int := if s.brake.isSome then s.braked + 1 else s.braked
def stepS (a w : Int) (s : RSt) (xs : List Int) (sp : Int) : RSt :=
  { s with braked := brkN s, gone := s.gone + 1, spot := addL s.spot (rwL xs s.gone), pace := (slowF s (sqOn a w s xs sp)).2 }
noncomputable def stepL (a w d : Int) (s : RSt) (xs : List Int) (sp : Int) : T × RSt :=
  (stepT d (rwL xs s.gone) (slowF s (sqOn a w s xs sp)).1, if s.gone + 1 = lead xs then popR (stepS a w s xs sp) else stepS a w s xs sp)
def toolR (s : RSt) : Itm → RSt
  | .tool b => { s with side := .str (if b then "up" else "down") }
  | .mark z => { s with name := .str z }
  | _ => s
/-- it stands, and is held -/
def stuckR (s : RSt) : Bool := s.brake.isSome && decide (s.pace = nought)
noncomputable def stepR (a w d : Int) (s : RSt) : Option (T × RSt) :=
  match s.queue with
  | [] => none
  | .line xs sp :: _ => if stuckR s = true then none else some (stepL a w d s xs sp)
  | i :: _ => if stuckR s = true then none else some (itT i, popR (toolR s i))
noncomputable def runR (a w d : Int) : Nat → RSt → List T × RSt
  | 0, s => ([], s)
  | k + 1, s => match stepR a w d s with
    | none => ([], s)
    | some (t, s') => (t :: (runR a w d k s').1, (runR a w d k s').2)
def goR (s : RSt) : RSt := { s with brake := none }
end GB
namespace GB
open PySem PySem.Spec PyProof.Rows L2
section
variable {w c rate : Int} {is : List Itm} {S : List Fr2} {ax : Nat}
theorem reachN_top {k j : Nat} (hk : k + 1 ≤ is.length - 1) (h : is.length - k ≤ j) : sqAt (reachN w is S (k + 1)) j = sqAt (reachN w is S k) j := by
  show sqAt (if _ then _ else _) j = _
  split
  · rfl
  · rw [sqAt_set, if_neg (fun z => by omega)]
theorem reachN_up : ∀ (m k j : Nat), k + m ≤ is.length - 1 → is.length - k ≤ j → sqAt (reachN w is S (k + m)) j = sqAt (reachN w is S k) j
  | 0, _, _, _, _ => rfl
  | m + 1, k, j, h1, h2 => by
    rw [← Nat.add_assoc, reachN_top (by omega) (by omega)]
    exact reachN_up m k j (by omega) h2
theorem reach_end {j : Nat} (h : is.length ≤ j) : sqAt (reachR w is S) j = sqAt S j := by
  have := reachN_up (w := w) (is := is) (S := S) (is.length - 1) 0 j (by omega) (by omega)
  rw [Nat.zero_add] at this
  exact this
theorem reach_at {j : Nat} (h1 : 1 ≤ j) (h2 : j < is.length) (lS : S.length = is.length + 1) : sqAt (reachR w is S) j = if sqAt S j = nought then nought else lesserF (sqAt S j) (plusK (sqAt (reachR w is S) (j + 1)) (chg w (is.getD j (.wait 0)))) := by
  have e1 := reachN_up (w := w) (is := is) (S := S) (j - 1) (is.length - 1 - j + 1) j (by omega) (by omega)
  have e2 := reachN_up (w := w) (is := is) (S := S) j (is.length - 1 - j) (j + 1) (by omega) (by omega)
  rw [show is.length - 1 - j + 1 + (j - 1) = is.length - 1 by omega] at e1
  rw [show is.length - 1 - j + j = is.length - 1 by omega] at e2
  have e3 := reachN_low (w := w) (is := is) (S := S) (is.length - 1 - j) j (by omega)
  show sqAt (reachN w is S (is.length - 1)) j = _
  rw [e1]
  show sqAt (if _ then _ else _) j = _
  rw [show is.length - 1 - (is.length - 1 - j) = j by omega, e3]
  split
  · rename_i z
    rw [e3, z]
  · rw [sqAt_set, if_pos ⟨rfl, by rw [reachN_len]; omega⟩]
    show _ = lesserF _ (plusK (sqAt (reachN w is S (is.length - 1)) (j + 1)) _)
    rw [e2]
theorem own_tail {i : Itm} {q : List Itm} {j : Nat} (h1 : 1 ≤ j) : ownAt c rate (i :: q) (j + 1) = ownAt c rate q j := by
  cases j with
  | zero => omega
  | succ j => rfl
theorem owns_end {q : List Itm} {j : Nat} (h : q.length ≤ j) : sqAt (ownsF c rate q) j = nought := by
  rcases Nat.lt_or_ge q.length j with z | z
  · unfold sqAt
    rw [List.getD_eq_getElem?_getD, List.getElem?_eq_none (by rw [ownsF_len]; omega)]
    rfl
  · have e : j = q.length := by omega
    rw [sqAt_own (by omega), e]
    cases q with
    | nil => rfl
    | cons i q =>
      show (match (i :: q)[q.length]?, (i :: q)[q.length + 1]? with | some a, some b => ownF c rate a b | _, _ => nought) = nought
      rw [List.getElem?_eq_none (l := i :: q) (i := q.length + 1) (by simp)]
      cases (i :: q)[q.length]? <;> rfl
theorem reach_tail_go {i : Itm} {q : List Itm} : ∀ (m j : Nat), 1 ≤ j → q.length ≤ j + m → sqAt (reachR w q (ownsF c rate q)) j = sqAt (reachR w (i :: q) (ownsF c rate (i :: q))) (j + 1)
  | 0, j, h1, h2 => by
    rw [reach_end (by omega), reach_end (by rw [List.length_cons]; omega), owns_end (by omega), owns_end (by rw [List.length_cons]; omega)]
  | m + 1, j, h1, h2 => by
    rcases Nat.lt_or_ge j q.length with z | z
    · have r := reach_tail_go (i := i) (q := q) m (j + 1) (by omega) (by omega)
      rw [reach_at h1 z ownsF_len, reach_at (is := i :: q) (j := j + 1) (by omega) (by rw [List.length_cons]; omega) ownsF_len, sqAt_own (is := q) (j := j) (by omega), sqAt_own (is := i :: q) (j := j + 1) (by rw [List.length_cons]; omega), own_tail h1, r]
      rfl
    · exact reach_tail_go 0 j h1 (by omega)
theorem reach_tail {i : Itm} {q : List Itm} {j : Nat} (h : 1 ≤ j) : sqAt (reachR w q (ownsF c rate q)) j = sqAt (reachR w (i :: q) (ownsF c rate (i :: q))) (j + 1) := reach_tail_go (q.length) j h (by omega)
theorem sqAt_tail {S : List Fr2} {j : Nat} : sqAt S.tail j = sqAt S (j + 1) := by
  cases S <;> rfl
end
structure RI (ax : Nat) (w c : Int) (n : Nat) (s : RSt) : Prop where
  q20 : s.queue.length ≤ 20
  ok : ∀ i ∈ s.queue, OkI ax i
  rl : s.reach.length = s.queue.length + 1
  re : ∀ j, 1 ≤ j → sqAt s.reach j = sqAt (reachR w s.queue (ownsF c s.rate s.queue)) j
  pz : Zq 1600 (44 + 11 * n) s.pace
  lo : LoF s.pace
  r1 : 10 ≤ s.rate
  r2 : s.rate ≤ 200
  ls : s.spot.length = ax
  lg : s.goal.length = ax
  g0 : 0 ≤ s.gone
  gl : ∀ xs sp is, s.queue = .line xs sp :: is → s.gone < lead xs
  gz : (∀ xs sp is, s.queue ≠ .line xs sp :: is) → s.gone = 0
  bz : ∀ st m, s.brake = some (st, m) → Zq 1600 (33 + 11 * n) st ∧ LoF st ∧ 0 ≤ m ∧ m ≤ 1000 ∧ 2 * w * (m - 1) * st.2 < st.1
  bp : ∀ st m, s.brake = some (st, m) → s.pace ≠ nought → 0 ≤ s.braked ∧ s.braked < m
section
variable {ax n : Nat} {a w c d : Int} {s : RSt} {xs : List Int} {sp : Int} {is : List Itm}
theorem fq_zero {f : Fr2} (q : Fq f.1 f.2) (z : f.1 = 0) : f = nought := by
  obtain ⟨u, v⟩ := f
  simp only at z q
  subst z
  have o := q.one
  rw [Int.gcd_zero_left] at o
  have p := q.pos
  show ((0 : Int), v) = (0, 1)
  rw [show v = 1 by omega]
theorem Zq.pos {V : Int} {K : Nat} {f : Fr2} (z : Zq V K f) (h : f ≠ nought) : 1 ≤ f.1 := by
  have := z.nn
  rcases Int.lt_or_le 0 f.1 with q | q
  · omega
  · exact absurd (fq_zero z.fq (by omega)) h
theorem lesser_nought {f : Fr2} (q : Fq f.1 f.2) (h : 0 ≤ f.1) : lesserF f nought = nought := by
  unfold lesserF
  show (if (0 : Int) * f.2 < f.1 * 1 then nought else f) = nought
  split
  · rfl
  · rename_i z
    exact fq_zero q (by omega)
theorem RI.wk {n' : Nat} (R : RI ax w c n s) (h : n ≤ n') : RI ax w c n' s := { R with
  pz := R.pz.wk (Int.le_refl _) (by omega)
  bz := fun st m e => by
    obtain ⟨z, r⟩ := R.bz st m e
    exact ⟨z.wk (Int.le_refl _) (by omega), r⟩ }
theorem RI.rb (R : RI ax w c n s) (w0 : 1 ≤ w) (w1 : w ≤ 50) (c0 : 1 ≤ c) (c1 : c ≤ 50) {j : Nat} (h : 1 ≤ j) : Bd 1000 (sqAt s.reach j) := by
  rw [R.re j h]
  have q := R.q20
  exact (reachN_bd w0 w1 R.ok (owns_at_bd c0 c1 R.r1 R.r2 R.ok) _ j).mono (by omega)
theorem sqOn_z (R : RI ax w c n s) (a0 : 1 ≤ a) (a1 : a ≤ 50) (w0 : 1 ≤ w) (w1 : w ≤ 50) (c0 : 1 ≤ c) (c1 : c ≤ 50) (e : s.queue = .line xs sp :: is) :
    SqZ (44 + 11 * n) (sqOn a w s xs sp).1 ∧ Zq 1600 (44 + 11 * n) (sqOn a w s xs sp).2 ∧ LoF (sqOn a w s xs sp).2 := by
  have o : LnOk ax xs sp := R.ok (.line xs sp) (by rw [e]; exact List.mem_cons_self)
  have g := R.gl _ _ _ e
  have g0 := R.g0
  have l1 := o.lead1
  obtain ⟨bz, bl⟩ := (R.rb w0 w1 c0 c1 (Nat.le_refl 1)).zq (by decide)
  have m1 : 1 * 1 ≤ w * (2 * (lead xs - s.gone) - 1) := Int.mul_le_mul w0 (by omega) (by decide) (by omega)
  have m2 : w * (2 * (lead xs - s.gone) - 1) ≤ 50 * 200 := Int.mul_le_mul w1 (by omega) (by omega) (by decide)
  have m3 : 0 ≤ 2 * w * ((lead xs - s.gone) - 1) := Int.mul_nonneg (by omega) (by omega)
  have m4 : 2 * w * ((lead xs - s.gone) - 1) ≤ 100 * 100 := Int.mul_le_mul (by omega) (by omega) (by omega) (by decide)
  obtain ⟨tz, tp, td⟩ := top_zq o.s1 o.s2 R.r1 R.r2
  have tl : LoF (topF sp s.rate) := lo_small (by omega) tz.nn
  refine ⟨?_, ?_, ?_⟩
  · refine sqz_lesser (sqz_lesser (sqz_plus R.pz (by omega) a0) ((top_sqz o.s1 o.s2 R.r1 R.r2).wk (by omega))) ((sqz_plus bz ?_ (by omega)).wk (by omega))
    have : (10 : Int) ^ 22 + 10000 ≤ 2 ^ 80 := by decide
    omega
  · exact zq_lesser (zq_lesserR (zq_plusK R.pz (k := 2 * a) (by omega)) (tz.wk (Int.le_refl _) (by omega))) ((zq_plusK bz m3).wk (Int.le_refl _) (by omega : 44 ≤ 44 + 11 * n))
  · refine lo_lesser (lo_lesser (.inr (lo_plus R.pz.fq.pos R.pz.nn (by omega))) tl) ?_
    by_cases z : 1 ≤ 2 * w * ((lead xs - s.gone) - 1)
    · exact .inr (lo_plus bz.fq.pos bz.nn z)
    · rw [show 2 * w * ((lead xs - s.gone) - 1) = 0 by omega, plusK_0]
      exact bl
theorem brk_two {m q p : Int} (w0 : 1 ≤ w) (q0 : 1 ≤ q) (m2 : 2 ≤ m) (h : 2 * w * (m - 1) * q < p) : q * (2 * m) ≤ 2 * p := by
  have h1 : 1 * ((m - 1) * q) ≤ w * ((m - 1) * q) := Int.mul_le_mul_of_nonneg_right w0 (Int.mul_nonneg (by omega) (by omega))
  have h2 : 2 * w * (m - 1) * q = 2 * (w * ((m - 1) * q)) := by ac_rfl
  have h3 : 1 * q ≤ (m - 1) * q := Int.mul_le_mul_of_nonneg_right (by omega) (by omega)
  have h4 : (m - 1) * q = m * q - q := by rw [Int.sub_mul, Int.one_mul]
  have h5 : q * (2 * m) = 2 * (m * q) := by ac_rfl
  omega
theorem slow_z {p : Fr2 × Fr2} (R : RI ax w c n s) (w0 : 1 ≤ w) (ns : stuckR s = false) (p1 : SqZ (44 + 11 * n) p.1) (p2 : Zq 1600 (44 + 11 * n) p.2) (p3 : LoF p.2) :
    SqZ (44 + 11 * n) (slowF s p).1 ∧ Zq 1600 (44 + 11 * n) (slowF s p).2 ∧ LoF (slowF s p).2 ∧ ∀ st m, s.brake = some (st, m) → (slowF s p).2 ≠ nought → s.braked + 1 < m := by
  cases e : s.brake with
  | none =>
    unfold slowF
    rw [e]
    exact ⟨p1, p2, p3, fun _ _ z => by cases z⟩
  | some b =>
    obtain ⟨st, m⟩ := b
    have np : s.pace ≠ nought := by
      unfold stuckR at ns
      rw [e] at ns
      simpa using ns
    obtain ⟨b0, b1⟩ := R.bp st m e np
    obtain ⟨z, lo, m0, m9, hm⟩ := R.bz st m e
    have q0 := z.fq.pos
    have n0 := z.nn
    unfold slowF
    rw [e]
    have s1 : 1 ≤ st.1 := by
      by_cases y : m = 1
      · subst y
        have : 2 * w * (1 - 1) * st.2 = 0 := by rw [Int.sub_self, Int.mul_zero, Int.zero_mul]
        omega
      · have := brk_two w0 (by omega) (by omega) hm
        have : 1 * 1 ≤ st.2 * (2 * m) := Int.mul_le_mul (by omega) (by omega) (by decide) (by omega)
        omega
    have t1 : SqZ (44 + 11 * n) (timesF st (lowF (2 * (m - (s.braked + 1)) + 1) (2 * m))) := by
      have tz := zq_times (u := 2 * (m - (s.braked + 1)) + 1) (v := 2 * m) z (by omega) (by omega) (by omega) (by omega)
      have tg : (timesF st (lowF (2 * (m - (s.braked + 1)) + 1) (2 * m))).2 ≤ 10 ^ 14 * (timesF st (lowF (2 * (m - (s.braked + 1)) + 1) (2 * m))).1 := by
        refine times_ge q0 (by omega) ?_
        have u1 : st.1 * 1 ≤ st.1 * (2 * (m - (s.braked + 1)) + 1) := Int.mul_le_mul_of_nonneg_left (by omega) (by omega)
        by_cases y : m = 1
        · subst y
          rcases lo with lo | lo
          · omega
          · omega
        · have := brk_two w0 (by omega) (by omega) hm
          omega
      have tp := tz.fq.pos
      refine ⟨(tz.wk (by decide) (by omega)), ?_, tg⟩
      omega
    refine ⟨sqz_lesser p1 t1, zq_lesser p2 ((zq_times (u := m - (s.braked + 1)) (v := m) z (by omega) (by omega) (by omega) (by omega)).wk (Int.le_refl _) (by omega : 33 + 11 * n + 11 ≤ 44 + 11 * n)), ?_, ?_⟩
    · refine lo_lesser p3 ?_
      by_cases y : m - (s.braked + 1) = 0
      · rw [y, times_0 q0 (by omega)]; exact .inl rfl
      · refine .inr (times_ge q0 (by omega) ?_)
        have u1 : st.1 * 1 ≤ st.1 * (m - (s.braked + 1)) := Int.mul_le_mul_of_nonneg_left (by omega) (by omega)
        have := brk_two w0 (by omega) (by omega) hm
        have h5 : st.2 * (2 * m) = 2 * (st.2 * m) := by ac_rfl
        omega
    · rintro st' m' y
      cases y
      intro ne
      rcases Int.lt_or_le (s.braked + 1) m with q | q
      · exact q
      · exfalso
        apply ne
        have y : m - (s.braked + 1) = 0 := by omega
        show lesserF p.2 (timesF st (lowF (m - (s.braked + 1)) m)) = nought
        rw [y, times_0 q0 (by omega)]
        exact lesser_nought p2.fq p2.nn
theorem addL_len {ps xs : List Int} (h : xs.length = ps.length) : (addL ps xs).length = ps.length := by
  unfold addL
  rw [List.length_map, List.length_zip]
  omega
theorem ri_pop {i : Itm} (R : RI ax w c n s) (e : s.queue = i :: is) : RI ax w c n (popR s) := by
  have q := R.q20
  have rl := R.rl
  rw [e, List.length_cons] at q rl
  have et : s.queue.tail = is := by rw [e]; rfl
  have tl : s.queue.tail.length = is.length := by rw [et]
  refine { R with
    q20 := by show s.queue.tail.length ≤ 20; omega
    ok := fun i m => R.ok i (List.mem_of_mem_tail m)
    rl := by show s.reach.tail.length = s.queue.tail.length + 1; rw [List.length_tail]; omega
    re := fun j h => ?_
    g0 := Int.le_refl _
    gl := fun xs sp is' e' => ?_
    gz := fun _ => rfl }
  · show sqAt s.reach.tail j = sqAt (reachR w s.queue.tail (ownsF c s.rate s.queue.tail)) j
    rw [sqAt_tail, R.re (j + 1) (by omega), et, e]
    exact (reach_tail h).symm
  · have o : LnOk ax xs sp := R.ok (.line xs sp) (List.mem_of_mem_tail (by
      show Itm.line xs sp ∈ s.queue.tail
      rw [show s.queue.tail = Itm.line xs sp :: is' from e']; exact List.mem_cons_self))
    have := o.lead0
    show (0 : Int) < lead xs
    omega
theorem ri_tool {i : Itm} (R : RI ax w c n s) : RI ax w c n (toolR s i) := by
  cases i <;> exact { R with }
theorem toolR_queue {i : Itm} : (toolR s i).queue = s.queue := by cases i <;> rfl
theorem ri_step0 (R : RI ax w c n s) (a0 : 1 ≤ a) (a1 : a ≤ 50) (w0 : 1 ≤ w) (w1 : w ≤ 50) (c0 : 1 ≤ c) (c1 : c ≤ 50) (e : s.queue = .line xs sp :: is) (ns : stuckR s = false) (hg : s.gone + 1 ≠ lead xs) : RI ax w c n (stepS a w s xs sp) := by
  have o : LnOk ax xs sp := R.ok (.line xs sp) (by rw [e]; exact List.mem_cons_self)
  obtain ⟨z1, z2, z3⟩ := sqOn_z R a0 a1 w0 w1 c0 c1 e
  obtain ⟨y1, y2, y3, y4⟩ := slow_z R w0 ns z1 z2 z3
  have g := R.gl _ _ _ e
  have g0 := R.g0
  refine { R with
    pz := y2
    lo := y3
    ls := ?_
    g0 := by show 0 ≤ s.gone + 1; omega
    gl := fun xs' sp' is' e' => ?_
    gz := fun h => absurd e (h xs sp is)
    bp := fun st m eb np => ?_ }
  · show (addL s.spot (rwL xs s.gone)).length = ax
    rw [addL_len (by rw [rwL_len, o.len, R.ls])]
    exact R.ls
  · have e2 : s.queue = .line xs' sp' :: is' := e'
    rw [e] at e2
    cases e2
    show s.gone + 1 < lead xs
    omega
  · have eb' : s.brake = some (st, m) := eb
    have := y4 st m eb' np
    have np' : s.pace ≠ nought := by
      unfold stuckR at ns
      rw [eb'] at ns
      simpa using ns
    have := (R.bp st m eb' np').1
    show 0 ≤ brkN s ∧ brkN s < m
    unfold brkN
    rw [eb']
    exact ⟨by show 0 ≤ s.braked + 1; omega, by show s.braked + 1 < m; omega⟩
theorem ri_stepL (R : RI ax w c n s) (a0 : 1 ≤ a) (a1 : a ≤ 50) (w0 : 1 ≤ w) (w1 : w ≤ 50) (c0 : 1 ≤ c) (c1 : c ≤ 50) (e : s.queue = .line xs sp :: is) (ns : stuckR s = false) : RI ax w c n (stepL a w d s xs sp).2 := by
  unfold stepL
  by_cases hg : s.gone + 1 = lead xs
  · simp only [hg, if_true]
    -- popped: the gone of the middle state does not matter
    have o : LnOk ax xs sp := R.ok (.line xs sp) (by rw [e]; exact List.mem_cons_self)
    have key : RI ax w c n { stepS a w s xs sp with gone := s.gone } := by
      obtain ⟨z1, z2, z3⟩ := sqOn_z R a0 a1 w0 w1 c0 c1 e
      obtain ⟨y1, y2, y3, y4⟩ := slow_z R w0 ns z1 z2 z3
      refine { R with
        pz := y2
        lo := y3
        ls := ?_
        bp := fun st m eb np => ?_ }
      · show (addL s.spot (rwL xs s.gone)).length = ax
        rw [addL_len (by rw [rwL_len, o.len, R.ls])]
        exact R.ls
      · have eb' : s.brake = some (st, m) := eb
        have := y4 st m eb' np
        have np' : s.pace ≠ nought := by
          unfold stuckR at ns
          rw [eb'] at ns
          simpa using ns
        have := (R.bp st m eb' np').1
        show 0 ≤ brkN s ∧ brkN s < m
        unfold brkN
        rw [eb']
        exact ⟨by show 0 ≤ s.braked + 1; omega, by show s.braked + 1 < m; omega⟩
    exact ri_pop (s := { stepS a w s xs sp with gone := s.gone }) key e
  · simp only [hg, if_false]
    exact ri_step0 R a0 a1 w0 w1 c0 c1 e ns hg
theorem ri_stepR {t : T} {s' : RSt} (R : RI ax w c n s) (a0 : 1 ≤ a) (a1 : a ≤ 50) (w0 : 1 ≤ w) (w1 : w ≤ 50) (c0 : 1 ≤ c) (c1 : c ≤ 50) (h : stepR a w d s = some (t, s')) : RI ax w c n s' := by
  unfold stepR at h
  split at h
  · cases h
  · rename_i xs sp is e
    split at h
    · cases h
    · rename_i ns
      have := ri_stepL (d := d) R a0 a1 w0 w1 c0 c1 e (by simpa using ns)
      cases h
      exact this
  · rename_i i is hn e
    split at h
    · cases h
    · cases h
      exact ri_pop (ri_tool R) (by rw [toolR_queue]; exact e)
end
end GB
namespace GB
open PySem PySem.Spec PyProof.Rows L2
end GB
namespace GB
open PySem PySem.Spec PyProof.Rows L2
/-- a machine's numbers -/
structure Mch (a w c d : Int) : Prop where
  a0 : 1 ≤ a
  a1 : a ≤ 50
  w0 : 1 ≤ w
  w1 : w ≤ 50
  c0 : 1 ≤ c
  c1 : c ≤ 50
  d0 : 1 ≤ d
  d1 : d ≤ 100
theorem RunQ.put {h : IH} {n q r : Nat} {s s' : RSt} (R : RunQ h n q r s) (e1 : s'.queue = s.queue) (e2 : s'.reach = s.reach) : RunQ (h.set n (.obj cnR (rsF s' q r))) n q r s' ∧ Kp [n] h (h.set n (.obj cnR (rsF s' q r))) :=
  ⟨⟨set_get R.o, by rw [List.getElem?_set_ne R.nq, e1]; exact R.eq, by rw [List.getElem?_set_ne R.nr, e2]; exact R.er, R.qr⟩, kp_set List.mem_cons_self⟩
end GB
namespace GB
open PySem PySem.Spec PyProof.Rows L2
theorem Kp.thenSub {ns ms : List Nat} {h h1 h2 : IH} (a : Kp ns h h1) (b : Kp ms h1 h2) (s : ∀ j ∈ ms, j ∈ ns) : Kp ns h h2 := a.trans b fun j m => .inl (s j m)
theorem runR_none {a w d : Int} {s : RSt} (h : stepR a w d s = none) : ∀ k, runR a w d k s = ([], s)
  | 0 => rfl
  | k + 1 => by unfold runR; rw [h]
theorem runR_some {a w d : Int} {s s' : RSt} {t : T} (h : stepR a w d s = some (t, s')) (k : Nat) : runR a w d (k + 1) s = (t :: (runR a w d k s').1, (runR a w d k s').2) := by
  rw [runR, h]
end GB
namespace GB
open PySem PySem.Spec PyProof.Rows L2
theorem off_at {rs ps : List Int} {A B : List Itm} {i : Itm} (h : offF rs ps (A ++ i :: B) = none) : plB rs (tupI (ledI (endP ps A) i)) = true := by
  rw [offF_app] at h
  cases hA : offF rs ps A with
  | some k => rw [hA] at h; cases h
  | none =>
    rw [hA] at h
    have h2 : (offF rs (endP ps A) (i :: B)).map (· + A.length) = none := h
    cases q : plB rs (tupI (ledI (endP ps A) i)) with
    | true => rfl
    | false =>
      unfold offF at h2
      rw [q] at h2
      cases h2
/-- a bag, and all else as it was -/
def BagK (h0 h : IH) (n : Nat) : Prop := ∃ c m : Int, h[n]? = some (.lst [.int c, .int m]) ∧ 0 ≤ c ∧ 0 ≤ m ∧ m < 2147483629 ∧ Kp [n] h0 h
theorem BagK.kp {h0 h : IH} {n : Nat} (b : BagK h0 h n) : Kp [n] h0 h := by
  obtain ⟨c, m, e, a1, a2, a3, k⟩ := b
  exact k
theorem Kp.put {n : Nat} {c : Cell} {h0 h : IH} (k : Kp [n] h0 h) : Kp [n] h0 (h.set n c) := k.thenSub (kp_set List.mem_cons_self) fun _ m => m
theorem BagO.kp {h h' : IH} {n : Nat} {ns : List Nat} (b : BagO h n) (k : Kp ns h h') (nm : n ∉ ns) : BagO h' n := by
  obtain ⟨c, m, e, a1, a2, a3, _⟩ := b
  exact ⟨c, m, k.get e nm, a1, a2, a3, ⟨trivial⟩⟩
def rowsI : Itm → List T
  | .line xs _ => rwT xs
  | i => [itT i]
def todoQ (gone : Int) : List Itm → List T
  | [] => []
  | .line xs _ :: is => (rwT xs).drop gone.toNat ++ is.flatMap rowsI
  | i :: is => itT i :: is.flatMap rowsI
def todo (s : RSt) : List T := todoQ s.gone s.queue
def entR : T → T
  | .tup [_, row, _, _] => row
  | t => t
def EntOk (its : List Itm) (t : T) : Prop := (∃ d row q, t = stepT d row q) ∨ ∃ i, i ∈ its ∧ isL i = false ∧ t = itT i
theorem entR_item {i : Itm} (h : isL i = false) : entR (itT i) = itT i := by
  cases i with
  | line xs s => cases h
  | _ => rfl
theorem todo_0 {q : List Itm} : todoQ 0 q = q.flatMap rowsI := by
  cases q with
  | nil => rfl
  | cons i q =>
    cases i <;> rfl
theorem rwT_drop {xs : List Int} {g : Int} (g0 : 0 ≤ g) (gl : g < lead xs) : (rwT xs).drop g.toNat = .tup ((rwL xs g).map T.int) :: (rwT xs).drop (g + 1).toNat := by
  have hl : g.toNat < (rwT xs).length := by rw [rwT_len]; omega
  rw [List.drop_eq_getElem_cons hl]
  congr 1
  · have : (rwT xs)[g.toNat]? = some (T.tup ((rwL xs ((g.toNat : Nat) : Int)).map T.int)) := by
      unfold rwT
      rw [List.getElem?_map, List.getElem?_range (by omega)]
      rfl
    rw [List.getElem?_eq_getElem hl] at this
    rw [Option.some.inj this, Int.toNat_of_nonneg g0]
  · rw [show (g + 1).toNat = g.toNat + 1 by omega]
theorem addL_assoc2 {ps ys zs : List Int} : addL (addL ps ys) zs = addL ps (addL ys zs) := by
  unfold addL
  induction ps generalizing ys zs with
  | nil => rfl
  | cons p ps ih =>
    cases ys with
    | nil => rfl
    | cons y ys =>
      cases zs with
      | nil => rfl
      | cons z zs =>
        simp only [List.zip_cons_cons, List.map_cons]
        rw [Int.add_assoc, ih]
theorem st_next {xs : List Int} {g : Int} : addL (stL xs g) (rwL xs g) = stL xs (g + 1) := by
  unfold addL stL rwL
  rw [List.zip_map', List.map_map]
  refine List.map_congr_left fun x _ => ?_
  show near (g * x) (lead xs) + (near ((g + 1) * x) (lead xs) - near (g * x) (lead xs)) = _
  omega
theorem st_zero {xs ps : List Int} (h : 0 < lead xs) (l : xs.length = ps.length) : addL ps (stL xs 0) = ps := by
  have z : ∀ x : Int, near (0 * x) (lead xs) = 0 := fun x => by
    rw [Int.zero_mul, near_nn h (Int.le_refl _), Int.mul_zero, Int.zero_add]
    exact Int.ediv_eq_zero_of_lt (by omega) (by omega)
  unfold addL stL
  simp only [z]
  refine List.ext_getElem? fun i => ?_
  rw [List.getElem?_map]
  by_cases q : i < ps.length
  · have e0 : (xs.map fun _ => (0 : Int))[i]? = some 0 := by rw [List.getElem?_map, List.getElem?_eq_getElem (by omega : i < xs.length)]; rfl
    have e1 : (ps.zip (xs.map fun _ => (0 : Int)))[i]? = some (ps[i], 0) := List.getElem?_zip_eq_some.mpr ⟨List.getElem?_eq_getElem q, e0⟩
    rw [e1, List.getElem?_eq_getElem q]
    show some (ps[i] + 0) = _
    rw [Int.add_zero]
  · rw [List.getElem?_eq_none (by rw [List.length_zip]; omega), List.getElem?_eq_none (by omega)]
    rfl
theorem st_full {xs : List Int} (h : 0 < lead xs) : stL xs (lead xs) = xs := by
  unfold stL
  have z : ∀ x : Int, near (lead xs * x) (lead xs) = x := fun x => by
    have := near_shift (x := x) (j := 0) h (Int.le_refl _)
    rw [Int.add_zero, Int.zero_mul, near_nn h (Int.le_refl _), Int.mul_zero, Int.zero_add, Int.ediv_eq_zero_of_lt (by omega) (by omega), Int.add_zero] at this
    exact this
  rw [List.map_congr_left (g := id) fun x _ => z x, List.map_id]
/-- where it is -/
def posQ (g : Int) (ps : List Int) : List Itm → List Int
  | .line xs _ :: _ => addL ps (stL xs g)
  | _ => ps
/-- on its way along a row: what is done, what waits, where it is, how fast -/
structure RW (rs ps : List Int) (its : List Itm) (n : Nat) (found : List T) (s : RSt) : Prop where
  dn : ∃ D, its = D ++ s.queue ∧ s.spot = posQ s.gone (endP ps D) s.queue ∧ (endP ps D).length = rs.length
  gl : s.goal = endP ps its
  td : found.map entR ++ todo s = its.flatMap rowsI
  ro : (∀ xs sp is, s.queue ≠ .line xs sp :: is) → s.pace = nought
  eo : ∀ t ∈ found, EntOk its t
section
variable {rs ps : List Int} {its : List Itm} {n ax : Nat} {found : List T} {s s' : RSt} {a w c d : Int} {t : T}
theorem lesser_n0 {g : Fr2} (h : 0 ≤ g.1) : lesserF nought g = nought := by
  unfold lesserF
  show (if g.1 * 1 < 0 * g.2 then g else nought) = nought
  rw [if_neg (by omega)]
theorem rw_step (W : RW rs ps its n found s) (I : RI rs.length w c n s) (a0 : 1 ≤ a) (a1 : a ≤ 50) (w0 : 1 ≤ w) (w1 : w ≤ 50) (c0 : 1 ≤ c) (c1 : c ≤ 50) (h : stepR a w d s = some (t, s')) : RW rs ps its n (found ++ [t]) s' := by
  obtain ⟨D, eD, sp', lD⟩ := W.dn
  unfold stepR at h
  split at h
  · cases h
  · rename_i xs sp is e
    split at h
    · cases h
    · rename_i ns
      have ns' : stuckR s = false := by simpa using ns
      have o : LnOk rs.length xs sp := I.ok (.line xs sp) (by rw [e]; exact List.mem_cons_self)
      have l0 := o.lead0
      have g := I.gl _ _ _ e
      have g0 := I.g0
      obtain ⟨z1, z2, z3⟩ := sqOn_z I a0 a1 w0 w1 c0 c1 e
      obtain ⟨y1, y2, y3, y4⟩ := slow_z I w0 ns' z1 z2 z3
      have td := W.td
      have et : todo s = .tup ((rwL xs s.gone).map T.int) :: ((rwT xs).drop (s.gone + 1).toNat ++ is.flatMap rowsI) := by
        unfold todo
        rw [e]
        show (rwT xs).drop s.gone.toNat ++ _ = _
        rw [rwT_drop g0 g]; rfl
      rw [et] at td
      have sp2 : addL s.spot (rwL xs s.gone) = addL (endP ps D) (stL xs (s.gone + 1)) := by
        rw [sp', e]
        show addL (addL (endP ps D) (stL xs s.gone)) _ = _
        rw [addL_assoc2, st_next]
      have tdn : ∀ X : List T, (rwT xs).drop (s.gone + 1).toNat ++ is.flatMap rowsI = X → (found ++ [stepT d (rwL xs s.gone) (slowF s (sqOn a w s xs sp)).1]).map entR ++ X = its.flatMap rowsI := fun X eX => by
        rw [List.map_append, List.append_assoc, ← eX]
        exact td
      have eo' : ∀ t ∈ found ++ [stepT d (rwL xs s.gone) (slowF s (sqOn a w s xs sp)).1], EntOk its t := fun t m => by
        rcases List.mem_append.mp m with m | m
        · exact W.eo t m
        · exact .inl ⟨_, _, _, List.mem_singleton.mp m⟩
      have hs := Option.some.inj h
      unfold stepL at hs
      by_cases hg : s.gone + 1 = lead xs
      · rw [if_pos hg] at hs
        cases hs
        have eqt : (popR (stepS a w s xs sp)).queue = is := by show s.queue.tail = is; rw [e]; rfl
        refine ⟨⟨D ++ [.line xs sp], ?_, ?_, ?_⟩, W.gl, ?_, ?_, eo'⟩
        · rw [eqt, List.append_assoc, eD, e]; rfl
        · rw [eqt, endP_snoc]
          show addL s.spot (rwL xs s.gone) = posQ 0 (addL (endP ps D) xs) is
          rw [sp2, hg, st_full (by omega)]
          cases his : is with
          | nil => rfl
          | cons i is' =>
            cases i with
            | line ys sq =>
              have o2 : LnOk rs.length ys sq := I.ok (.line ys sq) (by rw [e, his]; exact List.mem_cons_of_mem _ List.mem_cons_self)
              have := o2.lead0
              show _ = addL (addL (endP ps D) xs) (stL ys 0)
              rw [st_zero (by omega)]
              rw [addL_len (by rw [o.len, lD]), o2.len, lD]
            | _ => rfl
        · rw [endP_snoc]
          show (addL (endP ps D) xs).length = _
          rw [addL_len (by rw [o.len, lD]), lD]
        · refine tdn _ ?_
          unfold todo
          rw [eqt]
          show _ = todoQ 0 is
          rw [todo_0, hg, List.drop_eq_nil_of_le (by rw [rwT_len]; omega)]
          rfl
        · rw [eqt]
          intro nl
          show (slowF s (sqOn a w s xs sp)).2 = nought
          have r1 : sqAt s.reach 1 = nought := by
            rw [I.re 1 (Nat.le_refl _), e]
            cases his : is with
            | nil => rw [reach_end (by simp), owns_end (by simp)]
            | cons i is' =>
              rw [reach_at (Nat.le_refl _) (by simp) ownsF_len, sqAt_own (by simp)]
              have : ownAt c s.rate (.line xs sp :: i :: is') 1 = nought := by
                show ownF c s.rate (.line xs sp) i = nought
                cases i with
                | line ys sq => exact absurd his (by intro z; exact nl ys sq is' (by rw [his]))
                | _ => rfl
              rw [this, if_pos rfl]
          have s2 : (sqOn a w s xs sp).2 = nought := by
            show lesserF _ (plusK (sqAt s.reach 1) (2 * w * ((lead xs - s.gone) - 1))) = nought
            rw [r1, show (lead xs - s.gone) - 1 = 0 by omega, Int.mul_zero, plusK_0]
            by_cases lt : (topF sp s.rate).1 * (plusK s.pace (2 * a)).2 < (plusK s.pace (2 * a)).1 * (topF sp s.rate).2
            · unfold lesserF
              rw [if_pos lt]
              have tz := (top_zq o.s1 o.s2 I.r1 I.r2).1
              exact lesser_nought tz.fq tz.nn
            · have := zq_plusK I.pz (k := 2 * a) (by omega)
              have e3 : lesserF (plusK s.pace (2 * a)) (topF sp s.rate) = plusK s.pace (2 * a) := by unfold lesserF; rw [if_neg lt]
              rw [e3]
              exact lesser_nought this.fq this.nn
          unfold slowF
          cases eb : s.brake with
          | none => exact s2
          | some b =>
            obtain ⟨st, m⟩ := b
            show lesserF (sqOn a w s xs sp).2 (timesF st (lowF (m - (s.braked + 1)) m)) = nought
            rw [s2]
            have np : s.pace ≠ nought := by
              unfold stuckR at ns'
              rw [eb] at ns'
              simpa using ns'
            obtain ⟨b0, b1⟩ := I.bp st m eb np
            obtain ⟨z, lo, m0, m9, hm⟩ := I.bz st m eb
            exact lesser_n0 (zq_times (u := m - (s.braked + 1)) (v := m) z (by omega) (by omega) (by omega) (by omega)).nn
      · rw [if_neg hg] at hs
        cases hs
        have eqt : (stepS a w s xs sp).queue = .line xs sp :: is := e
        refine ⟨⟨D, ?_, ?_, lD⟩, W.gl, ?_, ?_, eo'⟩
        · rw [eqt, ← e]; exact eD
        · rw [eqt]; exact sp2
        · refine tdn _ ?_
          unfold todo
          rw [eqt]
          rfl
        · intro nl
          exact absurd eqt (nl xs sp is)
  · rename_i i is hn e
    split at h
    · cases h
    · cases h
      have ni : isL i = false := by
        cases i with
        | line xs sp => exact absurd rfl (hn xs sp)
        | _ => rfl
      have eqt : (popR (toolR s i)).queue = is := by show (toolR s i).queue.tail = is; rw [toolR_queue, e]; rfl
      have eL : ∀ q, ledI q i = q := fun q => by
        cases i with
        | line xs s => cases ni
        | _ => rfl
      have nl : ∀ xs sp is', s.queue ≠ .line xs sp :: is' := fun xs sp is' z => by
        rw [e] at z
        cases z
        cases ni
      have p0 := W.ro nl
      have td := W.td
      have et : todo s = itT i :: is.flatMap rowsI := by
        unfold todo
        rw [e]
        cases i with
        | line xs s => cases ni
        | _ => rfl
      rw [et] at td
      have sps : s.spot = endP ps D := by
        rw [sp', e]
        cases i with
        | line xs s => cases ni
        | _ => rfl
      refine ⟨⟨D ++ [i], ?_, ?_, ?_⟩, ?_, ?_, ?_, ?_⟩
      · rw [eqt, List.append_assoc, eD, e]; rfl
      · rw [eqt, endP_snoc, eL]
        have : (popR (toolR s i)).spot = s.spot := by cases i <;> rfl
        rw [this, sps]
        show _ = posQ 0 (endP ps D) is
        cases his : is with
        | nil => rfl
        | cons j is' =>
          cases j with
          | line ys sq =>
            have o2 : LnOk rs.length ys sq := I.ok (.line ys sq) (by rw [e, his]; exact List.mem_cons_of_mem _ List.mem_cons_self)
            have := o2.lead0
            show _ = addL (endP ps D) (stL ys 0)
            rw [st_zero (by omega) (by rw [o2.len, lD])]
          | _ => rfl
      · rw [endP_snoc, eL, lD]
      · have : (popR (toolR s i)).goal = s.goal := by cases i <;> rfl
        rw [this]; exact W.gl
      · rw [List.map_append, List.append_assoc]
        unfold todo
        rw [eqt]
        show _ ++ ([entR (itT i)] ++ todoQ 0 is) = _
        rw [entR_item ni, todo_0]
        exact td
      · intro _
        have : (popR (toolR s i)).pace = s.pace := by cases i <;> rfl
        rw [this]; exact p0
      · intro t m
        rcases List.mem_append.mp m with m | m
        · exact W.eo t m
        · exact .inr ⟨i, by rw [eD, e]; exact List.mem_append_right _ List.mem_cons_self, ni, List.mem_singleton.mp m⟩
theorem rw_run (a0 : 1 ≤ a) (a1 : a ≤ 50) (w0 : 1 ≤ w) (w1 : w ≤ 50) (c0 : 1 ≤ c) (c1 : c ≤ 50) : ∀ (k : Nat) (s : RSt) (found : List T), RW rs ps its n found s → RI rs.length w c n s → RW rs ps its n (found ++ (runR a w d k s).1) (runR a w d k s).2
  | 0, s, found, W, I => by
    show RW rs ps its n (found ++ []) s
    rw [List.append_nil]; exact W
  | k + 1, s, found, W, I => by
    cases e : stepR a w d s with
    | none => rw [runR_none e, List.append_nil]; exact W
    | some p =>
      obtain ⟨t, s'⟩ := p
      rw [runR_some e]
      show RW rs ps its n (found ++ (t :: (runR a w d k s').1)) (runR a w d k s').2
      rw [show found ++ (t :: (runR a w d k s').1) = found ++ [t] ++ (runR a w d k s').1 by simp]
      exact rw_run a0 a1 w0 w1 c0 c1 k s' (found ++ [t]) (rw_step W I a0 a1 w0 w1 c0 c1 e) (ri_stepR I a0 a1 w0 w1 c0 c1 e)
theorem RW.same (W : RW rs ps its n found s) (h1 : s'.queue = s.queue) (h2 : s'.spot = s.spot) (h3 : s'.gone = s.gone) (h4 : s'.goal = s.goal) (h5 : s'.pace = s.pace) : RW rs ps its n found s' := by
  obtain ⟨D, eD, sp', lD⟩ := W.dn
  refine ⟨⟨D, by rw [h1]; exact eD, by rw [h1, h2, h3]; exact sp', lD⟩, by rw [h4]; exact W.gl, ?_, ?_, W.eo⟩
  · unfold todo
    rw [h1, h3]; exact W.td
  · rw [h1, h5]; exact W.ro
theorem RW.cp {n' : Nat} (W : RW rs ps its n found s) : RW rs ps its n' found s := ⟨W.dn, W.gl, W.td, W.ro, W.eo⟩
end
end GB
namespace GB
open PySem PySem.Spec PyProof.Rows L2
end GB
namespace GB
open PySem PySem.Spec PyProof.Rows L2
/-- what lies about in a law of one runner that is told drawn deeds -/
structure KS (rs ps : List Int) (a w c d : Int) (its : List Itm) (bn n wb fb k : Nat) (h : IH) (q r : Nat) (s : RSt) (fed wts : List Itm) (found : List T) : Prop where
  b : BagO h bn
  R : RunQ h n q r s
  ww : h[wb]? = some (.lst (itL wts))
  ff : h[fb]? = some (.lst found)
  ne : [bn, n, q, r, wb, fb].Nodup
  em : s.m = machT rs a w c d
  I : RI rs.length w c k s
  W : RW rs ps fed k found s
  ei : its = fed ++ wts
theorem rows_len {ax : Nat} : ∀ {is : List Itm}, (∀ i ∈ is, OkI ax i) → (is.flatMap rowsI).length ≤ 100 * is.length
  | [], _ => Nat.le_refl _
  | i :: is, ok => by
    rw [List.flatMap_cons, List.length_append, List.length_cons]
    have := rows_len (is := is) fun j m => ok j (List.mem_cons_of_mem i m)
    have : (rowsI i).length ≤ 100 := by
      cases i with
      | line xs s =>
        have o : LnOk ax xs s := ok (.line xs s) List.mem_cons_self
        have := o.lead1
        show (rwT xs).length ≤ 100
        rw [rwT_len]; omega
      | _ => show (1 : Nat) ≤ 100; decide
    omega
theorem KS.fl {rs ps : List Int} {a w c d : Int} {its : List Itm} {bn n wb fb k : Nat} {h : IH} {q r : Nat} {s : RSt} {fed wts : List Itm} {found : List T} (S : KS rs ps a w c d its bn n wb fb k h q r s fed wts found) (ok : ∀ i ∈ its, OkI rs.length i) (l : its.length ≤ 20) : found.length ≤ 2000 ∧ fed.length + wts.length ≤ 20 ∧ s.queue.length ≤ fed.length := by
  have e := S.ei
  have l1 : fed.length + wts.length = its.length := by rw [e, List.length_append]
  have r1 := rows_len (is := fed) fun i m => ok i (by rw [e]; exact List.mem_append_left _ m)
  have t := congrArg List.length S.W.td
  rw [List.length_append, List.length_map] at t
  obtain ⟨D, eD, _⟩ := S.W.dn
  have l2 : fed.length = D.length + s.queue.length := by rw [eD, List.length_append]
  omega
end GB
namespace GB
end GB
namespace GB
open PySem PySem.Spec PyProof.Rows L2
end GB
namespace GB
open PySem PySem.Spec PyProof.Rows L2
end GB
namespace GB
open PySem PySem.Spec PyProof.Rows L2
end GB
namespace GB
open PySem PySem.Spec PyProof.Rows L2
section
variable {ax n : Nat} {a w c d rate : Int} {is : List Itm}
def RB (w c rate : Int) (is : List Itm) (j : Nat) : Fr2 := sqAt (reachR w is (ownsF c rate is)) j
/-- the numbers of a row and its machine -/
structure RN (ax : Nat) (a w c d rate : Int) (is : List Itm) : Prop where
  M : Mch a w c d
  r1 : 10 ≤ rate
  r2 : rate ≤ 200
  ok : ∀ i ∈ is, OkI ax i
theorem RN.rb (N : RN ax a w c d rate is) (j : Nat) : Bd (is.length - 1) (RB w c rate is j) := reachN_bd N.M.w0 N.M.w1 N.ok (owns_at_bd N.M.c0 N.M.c1 N.r1 N.r2 N.ok) _ j
theorem RN.of (N : RN ax a w c d rate is) (j : Nat) : Bd 0 (sqAt (ownsF c rate is) j) := owns_at_bd N.M.c0 N.M.c1 N.r1 N.r2 N.ok j
end
end GB
namespace GB
open PySem PySem.Spec PyProof.Rows L2
def cnD : Cn := ⟨"law_sim", ["machine", "place", "goal", "square", "rate", "tool", "mark", "queue", "gone", "brake", "braked", "reach", "told"]⟩
def simF (s : RSt) (q t : Nat) (rr : T) : List T := [s.m, tupI s.spot, tupI s.goal, frt s.pace, .int s.rate, s.side, s.name, .box q, .int s.gone, bkT s.brake, .int s.braked, rr, .box t]
structure SimQ (h : IH) (n q t : Nat) (s : RSt) (rr : T) (told : List T) : Prop where
  o : h[n]? = some (.dct cnD (simF s q t rr))
  eq : h[q]? = some (.lst (itL s.queue))
  et : h[t]? = some (.lst told)
  qt : q ≠ t
section
variable {h h' h1 : IH} {n q t : Nat} {s s' : RSt} {rr rr' : T} {told : List T}
theorem SimQ.nq (R : SimQ h n q t s rr told) : n ≠ q := fun z => by
  have := R.o; rw [z, R.eq] at this; cases this
theorem SimQ.nt (R : SimQ h n q t s rr told) : n ≠ t := fun z => by
  have := R.o; rw [z, R.et] at this; cases this
theorem SimQ.kp {ns : List Nat} (R : SimQ h n q t s rr told) (k : Kp ns h h') (hn : n ∉ ns) (hq : q ∉ ns) (hr : t ∉ ns) : SimQ h' n q t s rr told := ⟨k.get R.o hn, k.get R.eq hq, k.get R.et hr, R.qt⟩
theorem SimQ.put (R : SimQ h n q t s rr told) (e1 : s'.queue = s.queue) : SimQ (h.set n (.dct cnD (simF s' q t rr'))) n q t s' rr' told ∧ Kp [n] h (h.set n (.dct cnD (simF s' q t rr'))) :=
  ⟨⟨set_get R.o, by rw [List.getElem?_set_ne R.nq, e1]; exact R.eq, by rw [List.getElem?_set_ne R.nt]; exact R.et, R.qt⟩, kp_set List.mem_cons_self⟩
end
/-- the reach that is kept, if any -/
def RrOk (w c : Int) (s : RSt) (rr : T) : Prop := rr = .non ∨ rr = frt (sqAt (reachR w s.queue (ownsF c s.rate s.queue)) 1)
end GB
namespace GB
open PySem PySem.Spec PyProof.Rows L2
end GB
namespace GB
open PySem PySem.Spec PyProof.Rows L2
def upd {α : Type} (f : Bool → α) (b : Bool) (x : α) : Bool → α := fun y => if y = b then x else f y
theorem upd_same {α : Type} {f : Bool → α} {b : Bool} {x : α} : upd f b x b = x := if_pos rfl
/-- the cells lie in a row -/
structure Cells (n q m p t r : Bool → Nat) : Prop where
  c1 : n false < q false
  c2 : q false < n true
  c3 : n true < q true
  c4 : q true < m false
  c5 : m false < p false
  c6 : p false < t false
  c7 : t false < m true
  c8 : m true < p true
  c9 : p true < t true
  rf : (n false < r false ∧ r false < n true ∧ r false ≠ q false) ∨ t true < r false
  rt : (n true < r true ∧ r true < m false ∧ r true ≠ q true) ∨ t true < r true
  rr : r false ≠ r true
def ToldK (h : IH) (t r : Bool → Nat) (told : List T) : Prop := ∀ x ∈ told, ∃ f ks, x = T.tup [.box f, .tup ks] ∧ h[f]? = some (.lst ks) ∧ shT 3 (.lst ks) = true ∧ t true < f ∧ f ≠ r false ∧ f ≠ r true
structure K4 (rs : List Int) (a w c d : Int) (n q m p t : Bool → Nat) (k : Nat) (h : IH) (r : Bool → Nat) (s : Bool → RSt) (rr : Bool → T) (told : Bool → List T) : Prop where
  R : ∀ b, RunQ h (n b) (q b) (r b) (s b)
  S : ∀ b, SimQ h (m b) (p b) (t b) (s b) (rr b) (told b)
  kk : ∀ b, RrOk w c (s b) (rr b)
  I : ∀ b, RI rs.length w c k (s b)
  em : ∀ b, (s b).m = machT rs a w c d
  ok : ∀ b, ∀ i ∈ (s b).queue, OkJ rs.length i
  on : ∀ b, OnR rs (s b).goal
  ce : Cells n q m p t r
  to : ∀ b, ToldK h t r (told b)
  tl : ∀ b, (told b).length ≤ k
section
variable {rs : List Int} {a w c d : Int} {n q m p t r : Bool → Nat} {k k' : Nat} {h h' : IH} {s : Bool → RSt} {rr : Bool → T} {told : Bool → List T}
/-- nothing of it changes -/
theorem K4.kp (K : K4 rs a w c d n q m p t k h r s rr told) (e : Kp [] h h') (hk : k ≤ k') : K4 rs a w c d n q m p t k' h' r s rr told := { K with
  R := fun b => (K.R b).kp e (by simp) (by simp) (by simp)
  S := fun b => (K.S b).kp e (by simp) (by simp) (by simp)
  I := fun b => (K.I b).wk hk
  to := fun b x mx => by
    obtain ⟨f, ks, e1, e2, e3⟩ := K.to b x mx
    exact ⟨f, ks, e1, e.get e2 (by simp), e3⟩
  tl := fun b => Nat.le_trans (K.tl b) hk }
end
end GB
namespace GB
open PySem PySem.Spec PyProof.Rows L2
end GB
namespace GB
open PySem PySem.Spec PyProof.Rows L2
end GB
namespace GB
open PySem PySem.Spec PyProof.Rows L2
/-- a square as an entry may have it -/
structure SqY (K : Nat) (f : Fr2) : Prop where
  z : Zq (2 ^ 80) K f
  pos : 1 ≤ f.1
  lo : f.2 ≤ 10 ^ 48 * f.1
theorem SqY.wk {K K' : Nat} {f : Fr2} (a : SqY K f) (h : K ≤ K') : SqY K' f := ⟨a.z.wk (Int.le_refl _) h, a.pos, a.lo⟩
end GB
namespace GB
end GB
namespace GB
end GB
namespace GB
open PySem PySem.Spec PyProof.Rows L2
section
variable {f g : SE} {τ : Ev} {h : IH} {P : T → IH → Prop} {n : Nat} {x : Str} {F : Th → IH → Rs T}
theorem w_Cnt : Ok (eCnt f τ h) P = Ok (f τ h) fun x h1 => ∃ bs, (asL h1 x).bind blsOf = some bs ∧ P (.int (bs.count true : Nat)) h1 := by
  show Ok ((f τ h).bind _) P = _
  rw [w_bind]
  congr 1; funext x h1
  cases e : (asL h1 x).bind blsOf with
  | some bs =>
    dsimp only
    rw [w_ok]
    exact propext ⟨fun q => ⟨bs, rfl, q⟩, fun ⟨_, e, q⟩ => by cases e; exact q⟩
  | none => exact propext ⟨fun q => q.out.elim, fun ⟨_, e, _⟩ => nomatch e⟩
theorem w_Idx : Ok (eIdx f τ h) P = Ok (f τ h) fun x h1 => ∃ bs, (asL h1 x).bind blsOf = some bs ∧ true ∈ bs ∧ P (.int (bs.idxOf true : Nat)) h1 := by
  show Ok ((f τ h).bind _) P = _
  rw [w_bind]
  congr 1; funext x h1
  cases e : (asL h1 x).bind blsOf with
  | some bs =>
    dsimp only
    by_cases z : true ∈ bs
    · rw [if_pos z, w_ok]
      exact propext ⟨fun q => ⟨bs, rfl, z, q⟩, fun ⟨_, e, _, q⟩ => by cases e; exact q⟩
    · rw [if_neg z]
      exact propext ⟨fun q => q.out.elim, fun ⟨_, e, z', _⟩ => by cases e; exact absurd z' z⟩
  | none => exact propext ⟨fun q => q.out.elim, fun ⟨_, e, _⟩ => nomatch e⟩
theorem w_Lam : Ok (eLam n x F f τ h) P = (h[n]? = some (.tbl x) ∧ Ok (F (fun h1 => f τ h1) h) P) := by
  unfold eLam
  split
  · rename_i y e
    by_cases z : y = x
    · subst z
      rw [if_pos rfl]
      exact propext ⟨fun q => ⟨e, q⟩, fun q => q.2⟩
    · rw [if_neg z]
      exact propext ⟨fun q => q.out.elim, fun q => by
        have e2 := q.1
        rw [e] at e2
        cases e2
        exact absurd rfl z⟩
  · rename_i ne
    exact propext ⟨fun q => q.out.elim, fun q => absurd q.1 (ne x)⟩
end
end GB
namespace GB
open PySem PySem.Spec PyProof.Rows L2
theorem near_in_nn {k x l : Int} (h : 0 < l) (k0 : 0 ≤ k) (k1 : k ≤ l) (x0 : 0 ≤ x) : 0 ≤ near (k * x) l ∧ near (k * x) l ≤ x := by
  have u0 : 0 ≤ k * x := Int.mul_nonneg k0 x0
  have u1 : k * x ≤ l * x := Int.mul_le_mul_of_nonneg_right k1 x0
  rw [near_nn h u0]
  refine ⟨Int.ediv_nonneg (by omega) (by omega), ?_⟩
  have e : 2 * l * x = 2 * (l * x) := Int.mul_assoc 2 l x
  have a : (2 * (k * x) + l) / (2 * l) ≤ (l + 2 * l * x) / (2 * l) := Int.ediv_le_ediv (by omega) (by omega)
  have z : l / (2 * l) = 0 := Int.ediv_eq_zero_of_lt (by omega) (by omega)
  rw [Int.add_mul_ediv_left _ _ (by omega), z] at a
  omega
theorem near_in {k x l : Int} (h : 0 < l) (k0 : 0 ≤ k) (k1 : k ≤ l) : (0 ≤ near (k * x) l ∧ near (k * x) l ≤ x) ∨ (x ≤ near (k * x) l ∧ near (k * x) l ≤ 0) := by
  rcases Int.le_total 0 x with q | q
  · exact .inl (near_in_nn h k0 k1 q)
  · have := near_in_nn (x := -x) h k0 k1 (by omega)
    rw [Int.mul_neg, near_neg h] at this
    exact .inr (by omega)
theorem onr_stL {rs B xs : List Int} {g : Int} (o : OnR rs B) (o2 : OnR rs (addL B xs)) (lx : xs.length = B.length) (h : 0 < lead xs) (g0 : 0 ≤ g) (g1 : g ≤ lead xs) : OnR rs (addL B (stL xs g)) := by
  have lB := o.len
  refine onr_addL o (by rw [stL_len]; exact lx) fun i r p y e1 e2 e3 => ?_
  unfold stL at e3
  rw [List.getElem?_map] at e3
  obtain ⟨x, ex, rfl⟩ := Option.map_eq_some_iff.mp e3
  have hi : i < B.length := (List.getElem?_eq_some_iff.mp e2).1
  have l2 : (addL B xs).length = B.length := by unfold addL; rw [List.length_map, List.length_zip]; omega
  obtain ⟨r1, p1, er1, ep1, p10, p11⟩ := onr_get o hi
  obtain ⟨r2, p2, er2, ep2, p20, p21⟩ := onr_get o2 (by omega : i < (addL B xs).length)
  rw [e1] at er1 er2
  cases er1
  cases er2
  rw [e2] at ep1
  cases ep1
  have e4 : (addL B xs)[i]? = some (p + x) := by
    unfold addL
    have z : (B.zip xs)[i]? = some (p, x) := List.getElem?_zip_eq_some.mpr ⟨e2, ex⟩
    rw [List.getElem?_map, z]
    rfl
  rw [e4] at ep2
  cases ep2
  rcases near_in (x := x) h g0 g1 with z | z <;> omega
theorem plB_len {rs q : List Int} (hp : plB rs (tupI q) = true) : q.length = rs.length := by
  unfold plB at hp
  rw [Bool.and_eq_true, decide_eq_true_eq, List.length_map] at hp
  exact hp.1
theorem off_onr {rs : List Int} : ∀ {is : List Itm} {ps : List Int}, OnR rs ps → offF rs ps is = none → OnR rs (endP ps is)
  | [], ps, o, _ => o
  | i :: is, ps, o, h => by
    unfold offF at h
    cases q : plB rs (tupI (ledI ps i)) with
    | false => rw [q] at h; cases h
    | true =>
      rw [q, if_pos rfl] at h
      show OnR rs (endP (ledI ps i) is)
      exact off_onr (onr_plB (plB_len q) q) (by
        cases e : offF rs (ledI ps i) is with
        | none => rfl
        | some k => rw [e] at h; cases h)
theorem off_pre {rs ps : List Int} {A B : List Itm} (h : offF rs ps (A ++ B) = none) : offF rs ps A = none := by
  rw [offF_app] at h
  cases e : offF rs ps A with
  | none => rfl
  | some k => rw [e] at h; cases h
def OnW (rs : List Int) (s : RSt) : Prop := ∃ ps its found, OnR rs ps ∧ offF rs ps its = none ∧ RW rs ps its 0 found s
section
variable {rs : List Int} {a w c d : Int} {k : Nat} {s s' : RSt}
theorem OnW.spot (O : OnW rs s) (I : RI rs.length w c k s) : OnR rs s.spot := by
  obtain ⟨ps, its, found, o, h, W⟩ := O
  obtain ⟨D, eD, es, lD⟩ := W.dn
  have oD : OnR rs (endP ps D) := off_onr o (off_pre (B := s.queue) (eD ▸ h))
  rw [es]
  unfold posQ
  split
  · rename_i xs sp is eq
    have lo : LnOk rs.length xs sp := I.ok (.line xs sp) (by rw [eq]; exact List.mem_cons_self)
    have g1 := I.gl xs sp is eq
    have on := off_at (A := D) (i := .line xs sp) (B := is) (by rw [← eq]; exact eD ▸ h)
    exact onr_stL oD (onr_plB (plB_len on) on) (by rw [lo.len, lD]) (by have := lo.lead0; omega) I.g0 (by omega)
  · exact oD
theorem OnW.run (O : OnW rs s) (M : Mch a w c d) (I : RI rs.length w c k s) (N : Nat) : OnW rs (runR a w d N s).2 := by
  obtain ⟨ps, its, found, op, h, W⟩ := O
  have ⟨a0, a1, w0, w1, c0, c1, d0, d1⟩ := M
  exact ⟨ps, its, _, op, h, (rw_run a0 a1 w0 w1 c0 c1 N s found (W.cp (n' := k)) I).cp⟩
theorem OnW.same (O : OnW rs s) (h1 : s'.queue = s.queue) (h2 : s'.spot = s.spot) (h3 : s'.gone = s.gone) (h4 : s'.goal = s.goal) (h5 : s'.pace = s.pace) : OnW rs s' := by
  obtain ⟨ps, its, found, op, h, W⟩ := O
  exact ⟨ps, its, found, op, h, W.same h1 h2 h3 h4 h5⟩
theorem OnW.go (O : OnW rs s) : OnW rs (goR s) := O.same rfl rfl rfl rfl rfl
/-- what waits is dropped -/
def dropR (w c : Int) (s : RSt) : RSt := { s with queue := [], gone := 0, goal := s.spot, reach := reachR w [] (ownsF c s.rate []) }
theorem OnW.drop (O : OnW rs s) (I : RI rs.length w c k s) (z : s.pace = nought) : OnW rs (dropR w c s) :=
  ⟨s.spot, [], [], O.spot I, rfl, ⟨⟨[], rfl, rfl, I.ls⟩, rfl, rfl, fun _ => z, fun t m => by cases m⟩⟩
end
end GB
namespace GB
open PySem PySem.Spec PyProof.Rows L2
def ToldO (h : IH) (t r q p : Nat) (told : List T) : Prop := ∀ x ∈ told, ∃ ks, shT 3 (.lst ks) = true ∧ (x = T.tup [.lst ks, .tup ks] ∨ ∃ f, x = T.tup [.box f, .tup ks] ∧ h[f]? = some (.lst ks) ∧ t < f ∧ f ≠ r ∧ f ≠ q ∧ f ≠ p)
/-- the texts that it tells of itself -/
def TxtR (s : RSt) : Prop := (∃ z, s.side = .str z ∧ PyData.strOk z = true) ∧ ∃ z, s.name = .str z ∧ PyData.strOk z = true
structure K1 (mk : Str) (rs : List Int) (a w c d : Int) (n q m p t : Nat) (k : Nat) (h : IH) (r : Nat) (s : RSt) (rr : T) (told : List T) : Prop where
  R : RunQ h n q r s
  S : SimQ h m p t s rr told
  kk : RrOk w c s rr
  I : RI rs.length w c k s
  em : s.m = machT rs a w c d
  ok : ∀ i ∈ s.queue, OkJ rs.length i
  on : OnR rs s.goal
  ow : OnW rs s
  sd : TxtR s
  tb : h[0]? = some (.tbl mk)
  n0 : 0 < n
  c1 : (n < q ∧ q < m) ∨ t < q
  c2 : n < m
  c3 : (m < p ∧ p < t) ∨ t < p
  c4 : m < t
  rf : (n < r ∧ r < m) ∨ t < r
  dd : q ≠ r ∧ q ≠ p ∧ r ≠ p
  to : ToldO h t r q p told
  tl : told.length ≤ 40 + k
section
variable {mk : Str} {rs : List Int} {a w c d : Int} {n q m p t r : Nat} {k k' : Nat} {h h' : IH} {s : RSt} {rr : T} {told : List T}
theorem K1.kp (K : K1 mk rs a w c d n q m p t k h r s rr told) (e : Kp [] h h') (hk : k ≤ k') : K1 mk rs a w c d n q m p t k' h' r s rr told := { K with
  R := K.R.kp e (by simp) (by simp) (by simp)
  S := K.S.kp e (by simp) (by simp) (by simp)
  I := K.I.wk hk
  tb := e.get K.tb (by simp)
  to := fun x mx => by
    obtain ⟨ks, sh, z | ⟨f, e1, e2, e3⟩⟩ := K.to x mx
    · exact ⟨ks, sh, .inl z⟩
    · exact ⟨ks, sh, .inr ⟨f, e1, e.get e2 (by simp), e3⟩⟩
  tl := by have := K.tl; omega }
end
end GB
namespace GB
open PySem PySem.Spec PyProof.Rows L2
end GB
namespace GB
open PySem PySem.Spec PyProof.Rows L2
section
variable {c : Cn} {n i j : Nat} {is : List Nat} {v : T} {vs ts : List T} {h : IH} {τ : Ev} {g fo : SE} {N : Ev → IH → Prop} {M : T → IH → Prop}
theorem v_DPuts : OkS (sDPuts c is fo g τ h) N M = Ok (g τ h) fun v h1 => ∃ ts, v = .tup ts ∧ ts.length = is.length ∧ OkS (dputs c fo is ts τ h1) N M := by
  unfold sDPuts
  rw [w_fl]
  congr 1; funext v h1
  cases v with
  | tup ts =>
    dsimp only
    by_cases e : ts.length = is.length
    · rw [if_pos e]
      exact propext ⟨fun q => ⟨ts, rfl, e, q⟩, fun ⟨_, e, _, q⟩ => by cases e; exact q⟩
    · rw [if_neg e]
      exact propext ⟨fun q => q.out.elim, fun ⟨_, e2, z, q⟩ => by cases e2; exact absurd z e⟩
  | _ => exact propext ⟨fun q => q.out.elim, fun ⟨_, e, _⟩ => nomatch e⟩
end
end GB
namespace GB
open PySem PySem.Spec PyProof.Rows L2
end GB
namespace GB
open PySem PySem.Spec PyProof.Rows L2
/-- the square in a tape's entry -/
def sqT : T → Option Fr2
  | .tup [.str _, .tup _, .int _, .tup [.int p, .int q]] => some (p, q)
  | _ => none
theorem Val.le {f g : Fr2} {p q r s : Int} (a : Val f p q) (b : Val g r s) : leF f g ↔ p * s ≤ r * q := by
  have := Val.lt b a
  unfold leF
  omega
end GB
namespace GB
open PySem PySem.Spec PyProof.Rows L2
end GB
namespace GB
open PySem PySem.Spec PyProof.Rows L2
end GB
namespace GB
open PySem PySem.Spec PyProof.Rows L2
end GB
namespace GB
open PySem PySem.Spec PyProof.Rows L2
def W_all := And.intro @w_ok (And.intro @w_bind (And.intro @w_of (And.intro @w_fl (And.intro @w_ite (And.intro @w_iteN (And.intro @ex_ite (And.intro @ex_some (And.intro @ex_map (And.intro @ex_bind (And.intro @w_C (And.intro @w_V (And.intro @w_Bin (And.intro @w_Un (And.intro @w_Nil (And.intro @w_Cons (And.intro @w_Tup (And.intro @w_Lst (And.intro @w_Box (And.intro @w_Of (And.intro @w_And (And.intro @w_Or (And.intro @w_Not (And.intro @w_True (And.intro @w_eAnd (And.intro @w_eOr (And.intro @w_eNot (And.intro @w_If (And.intro @w_Chain (And.intro @w_oN (And.intro @w_oS (And.intro @w_Sl (And.intro @w_Call (And.intro @w_CallB (And.intro @w_eJoin (And.intro @w_Rev (And.intro @ex_str (And.intro @v_nx (And.intro @v_rt (And.intro @v_Skip (And.intro @v_Seq (And.intro @v_If (And.intro @v_Ret (And.intro @v_Expr (And.intro @v_Set (And.intro @v_Tp (And.intro @v_Par (And.intro @v_For (And.intro @v_App (And.intro @v_Mut (And.intro @v_Ext (And.intro @v_Put (And.intro @v_PutB (And.intro @ex_eqT (And.intro @ex_eqL (And.intro @ex_lst (And.intro @ex_bl (And.intro @ex_int (And.intro @if_dec (And.intro @w_iMap (And.intro @w_iR1 (And.intro @w_iR2 (And.intro @w_iR3 (And.intro @w_iZ (And.intro @w_iZE (And.intro @w_Lc (And.intro @w_LRg (And.intro @v_AppPop (And.intro @w_eJs (And.intro @w_jsN (And.intro @w_jsC (And.intro @w_iEnZ (And.intro @w_toBox (And.intro @w_Fld (And.intro @w_Meth (And.intro @w_Make (And.intro @v_FldT (And.intro @v_FldInc (And.intro @v_AppX (And.intro @v_PopX (And.intro @v_ClrX (And.intro @v_ExtL (And.intro @w_DGet (And.intro @w_Disp (And.intro @v_DPut (And.intro @v_DPutK (And.intro @w_PopX (And.intro @v_ExtX (And.intro @v_ExtXV (And.intro @w_LRg2 (And.intro @w_iG (And.intro @w_iEZG (And.intro @w_LcG (And.intro @v_ForG (And.intro @v_RevX (And.intro @w_Cnt (And.intro @w_Idx (And.intro @w_Lam (@v_DPuts))))))))))))))))))))))))))))))))))))))))))))))))))))))))))))))))))))))))))))))))))))))))))))))))))
def Q_all := And.intro @q_repL (And.intro @q_gEnT (And.intro @q_addT (And.intro @q_shr (And.intro @q_and (And.intro @q_revL (And.intro @q_revT (And.intro @q_cat (And.intro @q_lnL (And.intro @p_two (And.intro @q_slL (And.intro @q_slT (And.intro @q_add (And.intro @q_sub (And.intro @q_mul (And.intro @q_div (And.intro @q_mod (And.intro @q_pow (And.intro @q_shl (And.intro @q_lt (And.intro @q_le (And.intro @q_gt (And.intro @q_ge (And.intro @q_max2 (And.intro @q_min2 (And.intro @q_neg (And.intro @q_abs (And.intro @q_intI (And.intro @q_intB (And.intro @q_lenT (And.intro @q_lenL (And.intro @q_ixT (And.intro @q_ixL (And.intro @q_tupL (And.intro @q_tupT (And.intro @q_lstL (And.intro @q_lstT (And.intro @q_isN (And.intro @q_gL (And.intro @q_gT (And.intro @q_gEnL (And.intro @q_eq (And.intro @q_ne (And.intro @okMod_iff (And.intro @okAll_iff (And.intro @okPow_iff (And.intro @okR_iff (And.intro @at0 (And.intro @at1 (And.intro @at2 (And.intro @at3 (And.intro @at4 (And.intro @at5 (And.intro @is_int_non (And.intro @is_int_bl (And.intro @is_int_int (And.intro @is_int_str (And.intro @is_int_tup (And.intro @is_int_lst (And.intro @is_bool_non (And.intro @is_bool_bl (And.intro @is_bool_int (And.intro @is_bool_str (And.intro @is_bool_tup (And.intro @is_bool_lst (And.intro @is_str_non (And.intro @is_str_bl (And.intro @is_str_int (And.intro @is_str_str (And.intro @is_str_tup (And.intro @is_str_lst (And.intro @is_tuple_non (And.intro @is_tuple_bl (And.intro @is_tuple_int (And.intro @is_tuple_str (And.intro @is_tuple_tup (And.intro @is_tuple_lst (And.intro @is_list_non (And.intro @is_list_bl (And.intro @is_list_int (And.intro @is_list_str (And.intro @is_list_tup (@is_list_lst))))))))))))))))))))))))))))))))))))))))))))))))))))))))))))))))))))))))))))))))))
def L_all := And.intro @List.map_cons.{0,0} (And.intro @List.map_nil.{0,0} (And.intro @List.length_cons.{0} (And.intro @List.length_nil.{0} (And.intro @List.cons_append.{0} (And.intro @List.nil_append.{0} (And.intro @List.replicate_succ.{0} (And.intro @List.replicate_zero.{0} (And.intro @List.getElem?_cons_zero.{0} (And.intro @List.getElem?_cons_succ.{0} (And.intro @List.set_cons_zero.{0} (And.intro @List.set_cons_succ.{0} (And.intro @List.append_nil.{0} (And.intro @true_and (And.intro @and_true (And.intro @if_true.{1} (And.intro @if_false.{1} (And.intro @Bool.not_true (And.intro @Bool.not_false (And.intro @eq_self.{1} (And.intro @ite_true.{1} (And.intro @ite_false.{1} (And.intro @ne_eq.{1} (And.intro @not_false_eq_true (And.intro @not_true_eq_false (And.intro @false_or (And.intro @or_false (And.intro @true_or (And.intro @or_true (@Bool.false_eq_true)))))))))))))))))))))))))))))
end GB
namespace Lw
open PySem PySem.Spec PyProof.Rows L2 GB
def c_FIGURES : T := (.str "0123456789")
def c_MOST_FIGURES : T := (.int 4)
def c_MOST_ITEMS : T := (.int 20)
def c_MOST_LETTERS : T := (.int 8)
def c_MOST_SPEED : T := (.int 20)
def c_MOST_STEPS : T := (.int 100)
def c_MOST_WAIT : T := (.int 1000)
def c_SIDES : T := (.tup [(.str "up"), (.str "down")])
def c_SMALL : T := (.str "abcdefghijklmnopqrstuvwxyz")
noncomputable def f__law_bag_b1 : SS := (sSet 3 (eBin gMod (eBin gPow (eBin gAdd (eBin gAdd (eBin gMul (eV 3) (eC (.int 48271))) (eBin gMod (eBin gIx (eV 0) (eV 4)) (eC (.int 2147483647)))) (eBin gMul (eV 4) (eV 4))) (eC (.int 5))) (eC (.int 2147483629))))
noncomputable def f__law_bag : SF := runF 2 5 (sSeq (sSet 2 (eC (.int 0))) (sSeq (sIf (sOf (eBin gLt (eV 1) (eUn gLen (eV 0)))) (sSet 2 (eUn gAbs (eBin gIx (eV 0) (eV 1)))) sSkip) (sSeq (sSet 3 (eBin gAdd (eBin gAdd (eBin gMul (eBin gMul (eC (.int 7919)) (eV 1)) (eV 1)) (eBin gMul (eC (.int 104729)) (eV 1))) (eC (.int 17)))) (sSeq (sFor (iR1 (eBin gMin2 (eUn gLen (eV 0)) (eC (.int 60)))) (.nm 4) f__law_bag_b1) (sSeq (sIf (sOf (eBin gLt (eV 2) (eBin gPow (eC (.int 10)) (eC (.int 18))))) (sSet 2 (eC (.int 0))) sSkip) (sRet (eBox (aCons (eV 2) (aCons (eV 3) aNil)))))))))
noncomputable def f__law_take_b1 : SS := (sSeq (sPutB (eV 0) (eC (.int 1)) (eBin gMod (eBin gPow (eBin gAdd (eBin gMul (eBin gIx (eV 0) (eC (.int 1))) (eC (.int 48271))) (eC (.int 7919))) (eC (.int 3))) (eC (.int 2147483629)))) (sSeq (sSet 2 (eBin gAdd (eBin gMul (eV 2) (eC (.int 1073741789))) (eBin gMod (eBin gMul (eBin gDiv (eBin gIx (eV 0) (eC (.int 1))) (eC (.int 8))) (eC (.int 69621))) (eC (.int 1073741789))))) (sSet 3 (eBin gMul (eV 3) (eC (.int 1073741789))))))
noncomputable def f__law_take : SF := runF 2 5 (sSeq (sIf (sOf (eBin gGt (eBin gIx (eV 0) (eC (.int 0))) (eC (.int 0)))) (sSeq (sSet 4 (eBin gMod (eBin gIx (eV 0) (eC (.int 0))) (eV 1))) (sSeq (sPutB (eV 0) (eC (.int 0)) (eBin gDiv (eBin gIx (eV 0) (eC (.int 0))) (eV 1))) (sRet (eV 4)))) sSkip) (sSeq (sSet 2 (eC (.int 0))) (sSeq (sSet 3 (eC (.int 1))) (sSeq (sWh (sOf (eBin gLt (eV 3) (eV 1))) f__law_take_b1) (sRet (eBin gMod (eV 2) (eV 1)))))))
noncomputable def f__law_machine_e1 : SE := (eBin gAdd (eC (.int 1)) (eCall f__law_take (aCons (eV 0) (aCons (eV 2) aNil))))
noncomputable def f__law_machine_e2 : SE := (eBin gAdd (eC (.int 1)) (eCall f__law_take (aCons (eV 0) (aCons (eC (.int 50)) aNil))))
noncomputable def f__law_machine_r1 : SS := (sSeq (sSet 4 (eUn gTuple (eLc (iR1 (eC (.int 3))) [6] (.nm 6) sTrue f__law_machine_e2))) (sRet (eBin gAdd (eBin gAdd (eTup (aCons (eV 3) aNil)) (eV 4)) (eTup (aCons (eBin gAdd (eC (.int 1)) (eCall f__law_take (aCons (eV 0) (aCons (eC (.int 100)) aNil)))) aNil)))))
noncomputable def f__law_machine_r2 : SS := (sSeq (sSet 3 (eUn gTuple (eLc (iR1 (eV 1)) [5] (.nm 5) sTrue f__law_machine_e1))) f__law_machine_r1)
noncomputable def f__law_machine_r3 : SS := (sSeq (sSet 2 (eBin gIx (eLst (aCons (eC (.int 100)) (aCons (eC (.int 20)) aNil))) (eCall f__law_take (aCons (eV 0) (aCons (eC (.int 2)) aNil))))) f__law_machine_r2)
noncomputable def f__law_machine : SF := runF 1 7 (sSeq (sSet 1 (eBin gAdd (eC (.int 2)) (eCall f__law_take (aCons (eV 0) (aCons (eC (.int 2)) aNil))))) f__law_machine_r3)
noncomputable def f__law_word_r1 : SS := (sSeq (sSet 2 (eBin gCat (eV 2) (eLst (aCons (eC (.str "mark")) (aCons (eC (.str "up")) (aCons (eC (.str "down")) (aCons (eC (.str "")) (aCons (eC (.str "+1")) (aCons (eC (.str "1_0")) (aCons (eC (.str "left")) (aCons (eC (.str "abcdefghi")) (aCons (eC (.str "Up")) (aCons (eC (.str "x")) (aCons (eC (.str "1.0")) (aCons (eC (.str "a1")) aNil))))))))))))))) (sRet (eBin gIx (eV 2) (eCall f__law_take (aCons (eV 0) (aCons (eUn gLen (eV 2)) aNil))))))
noncomputable def f__law_word : SF := runF 2 3 (sSeq (sSet 2 (eLst (aCons (eC (.str "0")) (aCons (eC (.str "-0")) (aCons (eBin gAdd (eC (.str "0")) (eV 1)) (aCons (eBin gAdd (eC (.str "-")) (eV 1)) (aCons (eBin gAdd (eV 1) (eC (.str "0"))) (aCons (eC (.str "1001")) (aCons (eC (.str "21")) (aCons (eC (.str "101")) (aCons (eC (.str "-101")) (aCons (eC (.str "line")) (aCons (eC (.str "wait")) (aCons (eC (.str "tool")) aNil)))))))))))))) f__law_word_r1)
noncomputable def f__law_words_put_r1 : SS := (sSeq (sIf (sOf (eBin gEq (eV 2) (eC (.int 0)))) (sSet 5 (eBin gCat (eSl gSlL (eV 5) oNone (oSome (eV 6))) (eSl gSlL (eV 5) (oSome (eBin gAdd (eV 6) (eC (.int 1)))) oNone))) (sIf (sOf (eBin gEq (eV 2) (eC (.int 1)))) (sSet 5 (eBin gCat (eBin gCat (eSl gSlL (eV 5) oNone (oSome (eV 6))) (eLst (aCons (eCall f__law_word (aCons (eV 0) (aCons (eBin gIx (eV 5) (eV 6)) aNil))) aNil))) (eSl gSlL (eV 5) (oSome (eV 6)) oNone))) (sSet 5 (eBin gCat (eBin gCat (eSl gSlL (eV 5) oNone (oSome (eV 6))) (eLst (aCons (eCall f__law_word (aCons (eV 0) (aCons (eBin gIx (eV 5) (eV 6)) aNil))) aNil))) (eSl gSlL (eV 5) (oSome (eBin gAdd (eV 6) (eC (.int 1)))) oNone))))) (sRet (eJoin (eC (.str "\n")) (eBin gCat (eBin gCat (eSl gSlL (eV 3) oNone (oSome (eV 4))) (eLst (aCons (eJoin (eC (.str " ")) (eV 5)) aNil))) (eSl gSlL (eV 3) (oSome (eBin gAdd (eV 4) (eC (.int 1)))) oNone)))))
noncomputable def f__law_words_put_r2 : SS := (sSeq (sSet 6 (eCall f__law_take (aCons (eV 0) (aCons (eUn gLen (eV 5)) aNil)))) f__law_words_put_r1)
noncomputable def f__law_words_put_r3 : SS := (sSeq (sSet 5 (eSplit (eBin gIx (eV 3) (eV 4)) (eC (.str " ")))) f__law_words_put_r2)
noncomputable def f__law_words_put_r4 : SS := (sSeq (sSet 4 (eCall f__law_take (aCons (eV 0) (aCons (eUn gLen (eV 3)) aNil)))) f__law_words_put_r3)
noncomputable def f__law_words_put_r5 : SS := (sSeq (sSet 3 (eSplit (eV 1) (eC (.str "\n")))) f__law_words_put_r4)
noncomputable def f__law_words_put : SF := runF 2 7 (sSeq (sSet 2 (eCall f__law_take (aCons (eV 0) (aCons (eC (.int 6)) aNil)))) f__law_words_put_r5)
noncomputable def f__law_sign : SF := runF 1 2 (sSeq (sSet 1 (eC (.str " !\"#$&'()*+,-./0123456789:;<=>?@ABCDEFGHIJKLMNOPQRSTUVWXYZ[\\]^_`abcdefghijklmnopqrstuvwxyz{|}~"))) (sRet (eBin gIx (eBin gAdd (eV 1) (eC (.str "\n"))) (eCall f__law_take (aCons (eV 0) (aCons (eBin gAdd (eUn gLen (eV 1)) (eC (.int 1))) aNil))))))
noncomputable def f__law_signs_put_r1 : SS := (sSet 1 (eBin gIx (eLst (aCons (eBin gAdd (eSl gSlT (eV 1) oNone (oSome (eV 5))) (eSl gSlT (eV 1) (oSome (eBin gAdd (eV 5) (eC (.int 1)))) oNone)) (aCons (eBin gAdd (eBin gAdd (eSl gSlT (eV 1) oNone (oSome (eV 5))) (eV 4)) (eSl gSlT (eV 1) (oSome (eV 5)) oNone)) (aCons (eBin gAdd (eBin gAdd (eSl gSlT (eV 1) oNone (oSome (eV 5))) (eV 4)) (eSl gSlT (eV 1) (oSome (eBin gAdd (eV 5) (eC (.int 1)))) oNone)) aNil)))) (eV 3)))
noncomputable def f__law_signs_put_r2 : SS := (sSeq (sSet 5 (eCall f__law_take (aCons (eV 0) (aCons (eBin gAdd (eUn gLen (eV 1)) (eC (.int 1))) aNil)))) f__law_signs_put_r1)
noncomputable def f__law_signs_put_r3 : SS := (sSeq (sSet 4 (eCall f__law_sign (aCons (eV 0) aNil))) f__law_signs_put_r2)
noncomputable def f__law_signs_put_b1 : SS := (sSeq (sSet 3 (eCall f__law_take (aCons (eV 0) (aCons (eC (.int 3)) aNil)))) f__law_signs_put_r3)
noncomputable def f__law_signs_put : SF := runF 2 6 (sSeq (sFor (iR1 (eBin gAdd (eC (.int 1)) (eCall f__law_take (aCons (eV 0) (aCons (eC (.int 3)) aNil))))) (.nm 2) f__law_signs_put_b1) (sRet (eV 1)))
noncomputable def f__law_item_text_e1 : SE := (eUn gStr (eV 1))
noncomputable def f__law_item_text : SF := runF 1 2 (sSeq (sIf (sOf (eBin gEq (eBin gIx (eV 0) (eC (.int 0))) (eC (.str "line")))) (sRet (eBin gAdd (eBin gAdd (eBin gAdd (eC (.str "line ")) (eJoin (eC (.str " ")) (eLc (iMap (eBin gIx (eV 0) (eC (.int 1))) gT) [1] (.nm 1) sTrue f__law_item_text_e1))) (eC (.str " "))) (eUn gStr (eBin gIx (eV 0) (eC (.int 2)))))) sSkip) (sRet (eBin gAdd (eBin gAdd (eBin gIx (eV 0) (eC (.int 0))) (eC (.str " "))) (eUn gStr (eBin gIx (eV 0) (eC (.int 1)))))))
noncomputable def f__law_name_e1 : SE := (eBin gIx (eC (.str "abcdefghijklmnopqrstuvwxyz")) (eCall f__law_take (aCons (eV 0) (aCons (eC (.int 26)) aNil))))
noncomputable def f__law_name : SF := runF 1 2 (sRet (eJoin (eC (.str "")) (eLc (iR1 (eBin gAdd (eC (.int 1)) (eCall f__law_take (aCons (eV 0) (aCons (eC (.int 8)) aNil))))) [1] (.nm 1) sTrue f__law_name_e1)))
noncomputable def f__law_item_e1 : SE := (eBin gSub (eCall f__law_take (aCons (eV 0) (aCons (eBin gAdd (eBin gMul (eC (.int 2)) (eV 4)) (eC (.int 1))) aNil))) (eV 4))
noncomputable def f__law_item_r1 : SS := (sSeq (sIf (sNot (sOf (eUn gAny (eV 5)))) (sPut 5 (eCall f__law_take (aCons (eV 0) (aCons (eV 1) aNil))) (eC (.int 1))) sSkip) (sRet (eTup (aCons (eC (.str "line")) (aCons (eUn gTuple (eV 5)) (aCons (eV 3) aNil))))))
noncomputable def f__law_item_r2 : SS := (sSeq (sSet 5 (eLc (iR1 (eV 1)) [6] (.nm 6) sTrue f__law_item_e1)) f__law_item_r1)
noncomputable def f__law_item_r3 : SS := (sSeq (sSet 4 (eBin gIx (eLst (aCons (eC (.int 3)) (aCons (eC (.int 20)) (aCons (eC (.int 100)) aNil)))) (eCall f__law_take (aCons (eV 0) (aCons (eC (.int 3)) aNil))))) f__law_item_r2)
noncomputable def f__law_item_r4 : SS := (sSeq (sSet 3 (eBin gAdd (eC (.int 1)) (eCall f__law_take (aCons (eV 0) (aCons (eC (.int 20)) aNil))))) f__law_item_r3)
noncomputable def f__law_item_r5 : SS := (sSeq (sIf (sOf (eBin gEq (eV 2) (eC (.int 2)))) (sRet (eTup (aCons (eC (.str "mark")) (aCons (eCall f__law_name (aCons (eV 0) aNil)) aNil)))) sSkip) f__law_item_r4)
noncomputable def f__law_item_r6 : SS := (sSeq (sIf (sOf (eBin gEq (eV 2) (eC (.int 1)))) (sRet (eTup (aCons (eC (.str "tool")) (aCons (eBin gIx (eLst (aCons (eC (.str "up")) (aCons (eC (.str "down")) aNil))) (eCall f__law_take (aCons (eV 0) (aCons (eC (.int 2)) aNil)))) aNil)))) sSkip) f__law_item_r5)
noncomputable def f__law_item_r7 : SS := (sSeq (sIf (sOf (eBin gEq (eV 2) (eC (.int 0)))) (sRet (eTup (aCons (eC (.str "wait")) (aCons (eBin gAdd (eC (.int 1)) (eCall f__law_take (aCons (eV 0) (aCons (eC (.int 1000)) aNil)))) aNil)))) sSkip) f__law_item_r6)
noncomputable def f__law_item : SF := runF 2 7 (sSeq (sSet 2 (eCall f__law_take (aCons (eV 0) (aCons (eC (.int 6)) aNil)))) f__law_item_r7)
noncomputable def f__law_text_e1 : SE := (eCall f__law_item_text (aCons (eCall f__law_item (aCons (eV 0) (aCons (eV 1) aNil))) aNil))
noncomputable def f__law_text_r1 : SS := (sSeq (sIf (sOf (eBin (gIn false) (eV 2) (eLst (aCons (eC (.int 3)) (aCons (eC (.int 4)) (aCons (eC (.int 5)) aNil)))))) (sSet 4 (eCall f__law_signs_put (aCons (eV 0) (aCons (eV 4) aNil)))) sSkip) (sRet (eV 4)))
noncomputable def f__law_text_r2 : SS := (sSeq (sIf (sOf (eBin (gIn false) (eV 2) (eLst (aCons (eC (.int 1)) (aCons (eC (.int 2)) (aCons (eC (.int 3)) aNil)))))) (sSet 4 (eCall f__law_words_put (aCons (eV 0) (aCons (eV 4) aNil)))) sSkip) f__law_text_r1)
noncomputable def f__law_text_r3 : SS := (sSeq (sSet 4 (eJoin (eC (.str "\n")) (eLc (iR1 (eV 3)) [5] (.nm 5) sTrue f__law_text_e1))) f__law_text_r2)
noncomputable def f__law_text_r4 : SS := (sSeq (sIf (sOf (eBin gEq (eV 2) (eC (.int 0)))) (sSet 1 (eBin gSub (eC (.int 5)) (eV 1))) sSkip) f__law_text_r3)
noncomputable def f__law_text_r5 : SS := (sSeq (sSet 3 (eBin gIx (eLst (aCons (eCall f__law_take (aCons (eV 0) (aCons (eC (.int 20)) aNil))) (aCons (eC (.int 20)) (aCons (eC (.int 21)) (aCons (eCall f__law_take (aCons (eV 0) (aCons (eC (.int 4)) aNil))) aNil))))) (eCall f__law_take (aCons (eV 0) (aCons (eC (.int 4)) aNil))))) f__law_text_r4)
noncomputable def f__law_text : SF := runF 2 6 (sSeq (sSet 2 (eCall f__law_take (aCons (eV 0) (aCons (eC (.int 8)) aNil)))) f__law_text_r5)
noncomputable def f__law_number_read_e1 : SE := (eBin (gIn true) (eV 5) (eC (.str "0123456789")))
noncomputable def f__law_number_read_r1 : SS := (sSeq (sSet 4 (eBin gMul (eUn gInt (eV 3)) (eBin gSub (eC (.int 1)) (eBin gMul (eC (.int 2)) (eUn gInt (eBin gEq (eSl gSlT (eV 0) oNone (oSome (eC (.int 1)))) (eC (.str "-")))))))) (sRet (eIf (sOf (eChain gLe gLe (eV 1) (eV 4) (eV 2))) (eV 4) (eC .non))))
noncomputable def f__law_number_read_r2 : SS := (sSeq (sIf (sAnd (sOf (eBin gEq (eBin gIx (eV 3) (eC (.int 0))) (eC (.str "0")))) (sOf (eBin gNe (eV 0) (eC (.str "0"))))) (sRet (eC .non)) sSkip) f__law_number_read_r1)
noncomputable def f__law_number_read_r3 : SS := (sSeq (sIf (sOr (sNot (sOf (eChain gLe gLe (eC (.int 1)) (eUn gLen (eV 3)) (eC (.int 4))))) (sOf (eUn gAny (eLc (iMap (eV 3) gS) [5] (.nm 5) sTrue f__law_number_read_e1)))) (sRet (eC .non)) sSkip) f__law_number_read_r2)
noncomputable def f__law_number_read : SF := runF 3 6 (sSeq (sSet 3 (eIf (sOf (eBin gEq (eSl gSlT (eV 0) oNone (oSome (eC (.int 1)))) (eC (.str "-")))) (eSl gSlT (eV 0) (oSome (eC (.int 1))) oNone) (eV 0))) f__law_number_read_r3)
noncomputable def f__law_line_read_e1 : SE := (eCall f__law_number_read (aCons (eV 4) (aCons (eUn gNeg (eC (.int 100))) (aCons (eC (.int 100)) aNil))))
noncomputable def f__law_line_read_r1 : SS := (sSeq (sIf (sOr (sOf (eBin (gIn false) (eC .non) (eV 2))) (sOr (sOf (eBin (gIsN false) (eV 3) (eC .non))) (sNot (sOf (eUn gAny (eV 2)))))) (sRet (eC .non)) sSkip) (sRet (eTup (aCons (eC (.str "line")) (aCons (eUn gTuple (eV 2)) (aCons (eV 3) aNil))))))
noncomputable def f__law_line_read_r2 : SS := (sSeq (sSet 3 (eCall f__law_number_read (aCons (eBin gIx (eV 0) (eUn gNeg (eC (.int 1)))) (aCons (eC (.int 1)) (aCons (eC (.int 20)) aNil))))) f__law_line_read_r1)
noncomputable def f__law_line_read_r3 : SS := (sSeq (sSet 2 (eLc (iMap (eSl gSlL (eV 0) (oSome (eC (.int 1))) (oSome (eUn gNeg (eC (.int 1))))) gL) [4] (.nm 4) sTrue f__law_line_read_e1)) f__law_line_read_r2)
noncomputable def f__law_line_read : SF := runF 2 5 (sSeq (sIf (sOf (eBin gNe (eUn gLen (eV 0)) (eBin gAdd (eV 1) (eC (.int 2))))) (sRet (eC .non)) sSkip) f__law_line_read_r3)
noncomputable def f__law_item_read_e1 : SE := (eV 5)
noncomputable def f__law_item_read_c1 : SB := (sOf (eChain gLeS gLeS (eC (.str "a")) (eV 5) (eC (.str "z"))))
noncomputable def f__law_item_read_r1 : SS := (sSeq (sIf (sAnd (sOf (eBin gEq (eBin gIx (eV 2) (eC (.int 0))) (eC (.str "mark")))) (sAnd (sOf (eChain gLe gLe (eC (.int 1)) (eUn gLen (eBin gIx (eV 2) (eC (.int 1)))) (eC (.int 8)))) (sOf (eBin gEq (eV 3) (eUn gLen (eBin gIx (eV 2) (eC (.int 1)))))))) (sRet (eTup (aCons (eC (.str "mark")) (aCons (eBin gIx (eV 2) (eC (.int 1))) aNil)))) sSkip) (sRet (eC .non)))
noncomputable def f__law_item_read_r2 : SS := (sSeq (sSet 3 (eUn gLen (eLc (iMap (eBin gIx (eV 2) (eC (.int 1))) gS) [5] (.nm 5) f__law_item_read_c1 f__law_item_read_e1))) f__law_item_read_r1)
noncomputable def f__law_item_read_r3 : SS := (sSeq (sIf (sOf (eBin gEq (eBin gIx (eV 2) (eC (.int 0))) (eC (.str "tool")))) (sRet (eIf (sOf (eBin (gIn false) (eBin gIx (eV 2) (eC (.int 1))) (eLst (aCons (eC (.str "up")) (aCons (eC (.str "down")) aNil))))) (eTup (aCons (eC (.str "tool")) (aCons (eBin gIx (eV 2) (eC (.int 1))) aNil))) (eC .non))) sSkip) f__law_item_read_r2)
noncomputable def f__law_item_read_r4 : SS := (sSeq (sIf (sOf (eBin gEq (eBin gIx (eV 2) (eC (.int 0))) (eC (.str "wait")))) (sSeq (sSet 4 (eCall f__law_number_read (aCons (eBin gIx (eV 2) (eC (.int 1))) (aCons (eC (.int 1)) (aCons (eC (.int 1000)) aNil))))) (sRet (eIf (sOf (eBin (gIsN false) (eV 4) (eC .non))) (eC .non) (eTup (aCons (eC (.str "wait")) (aCons (eV 4) aNil)))))) sSkip) f__law_item_read_r3)
noncomputable def f__law_item_read_r5 : SS := (sSeq (sIf (sOf (eBin gNe (eUn gLen (eV 2)) (eC (.int 2)))) (sRet (eC .non)) sSkip) f__law_item_read_r4)
noncomputable def f__law_item_read_r6 : SS := (sSeq (sIf (sOf (eBin gEq (eBin gIx (eV 2) (eC (.int 0))) (eC (.str "line")))) (sRet (eCall f__law_line_read (aCons (eV 2) (aCons (eV 1) aNil)))) sSkip) f__law_item_read_r5)
noncomputable def f__law_item_read : SF := runF 2 6 (sSeq (sSet 2 (eSplit (eV 0) (eC (.str " ")))) f__law_item_read_r6)
noncomputable def f__law_due_r1 : SS := (sApp 2 (eV 4))
noncomputable def f__law_due_r2 : SS := (sSeq (sIf (sOr (sOf (eBin (gIsN false) (eV 4) (eC .non))) (sOf (eBin gEq (eUn gLen (eV 2)) (eC (.int 20))))) (sRet (eUn gLen (eV 2))) sSkip) f__law_due_r1)
noncomputable def f__law_due_b1 : SS := (sSeq (sSet 4 (eCall f__law_item_read (aCons (eV 3) (aCons (eV 1) aNil)))) f__law_due_r2)
noncomputable def f__law_due_r3 : SS := (sSeq (sFor (iMap (eSplit (eV 0) (eC (.str "\n"))) gL) (.nm 3) f__law_due_b1) (sRet (eUn gTuple (eV 2))))
noncomputable def f__law_due_r4 : SS := (sSeq (sIf (sOf (eBin gEq (eV 0) (eC (.str "")))) (sRet (eTup aNil)) sSkip) f__law_due_r3)
noncomputable def f__law_due_r5 : SS := (sSeq (sSet 2 (eLst aNil)) f__law_due_r4)
noncomputable def f__law_due : SF := runF 2 5 (sSeq (sIf (sNot (sOf (eUn (gIsi ["str"]) (eV 0)))) (sRet (eC (.int 0))) sSkip) f__law_due_r5)
noncomputable def f_is_whole : SF := runF 1 1 (sRet (eAnd (eUn (gIsi ["int"]) (eV 0)) (eNot (eUn (gIsi ["bool"]) (eV 0)))))
noncomputable def f_is_within : SF := runF 3 3 (sRet (eAnd (eCall f_is_whole (aCons (eV 0) aNil)) (eChain gLe gLe (eV 1) (eV 0) (eV 2))))
noncomputable def f_is_name_e1 : SE := (eBin (gIn false) (eV 1) (eC c_SMALL))
noncomputable def f_is_name : SF := runF 1 2 (sSeq (sIf (sOr (sNot (sOf (eUn (gIsi ["str"]) (eV 0)))) (sNot (sOf (eChain gLe gLe (eC (.int 1)) (eUn gLen (eV 0)) (eC c_MOST_LETTERS))))) (sRet (eC (.bl false))) sSkip) (sRet (eUn gAll (eLc (iMap (eV 0) gS) [1] (.nm 1) sTrue f_is_name_e1))))
noncomputable def f_are_steps_e1 : SE := (eBin gNe (eV 2) (eC (.int 0)))
noncomputable def f_are_steps_e2 : SE := (eCall f_is_within (aCons (eV 2) (aCons (eUn gNeg (eC c_MOST_STEPS)) (aCons (eC c_MOST_STEPS) aNil))))
noncomputable def f_are_steps : SF := runF 2 3 (sSeq (sIf (sOr (sNot (sOf (eUn (gIsi ["tuple"]) (eV 1)))) (sOf (eBin gNe (eUn gLen (eV 1)) (eUn gLen (eBin gIx (eV 0) (eC (.int 0))))))) (sRet (eC (.bl false))) sSkip) (sRet (eAnd (eUn gAll (eLc (iMap (eV 1) gT) [2] (.nm 2) sTrue f_are_steps_e2)) (eUn gAny (eLc (iMap (eV 1) gT) [2] (.nm 2) sTrue f_are_steps_e1)))))
noncomputable def f_is_speed : SF := runF 1 1 (sRet (eCall f_is_within (aCons (eV 0) (aCons (eC (.int 1)) (aCons (eC c_MOST_SPEED) aNil)))))
noncomputable def f_is_item_r1 : SS := (sSeq (sIf (sOf (eBin gEq (eBin gIx (eV 1) (eC (.int 0))) (eC (.str "tool")))) (sRet (eAnd (eUn (gIsi ["str"]) (eBin gIx (eV 1) (eC (.int 1)))) (eBin (gIn false) (eBin gIx (eV 1) (eC (.int 1))) (eC c_SIDES)))) sSkip) (sRet (eAnd (eBin gEq (eBin gIx (eV 1) (eC (.int 0))) (eC (.str "mark"))) (eCall f_is_name (aCons (eBin gIx (eV 1) (eC (.int 1))) aNil)))))
noncomputable def f_is_item_r2 : SS := (sSeq (sIf (sOf (eBin gEq (eBin gIx (eV 1) (eC (.int 0))) (eC (.str "wait")))) (sRet (eCall f_is_within (aCons (eBin gIx (eV 1) (eC (.int 1))) (aCons (eC (.int 1)) (aCons (eC c_MOST_WAIT) aNil))))) sSkip) f_is_item_r1)
noncomputable def f_is_item_r3 : SS := (sSeq (sIf (sOf (eBin gEq (eUn gLen (eV 1)) (eC (.int 3)))) (sRet (eC (.bl false))) sSkip) f_is_item_r2)
noncomputable def f_is_item_r4 : SS := (sSeq (sIf (sOf (eBin gEq (eBin gIx (eV 1) (eC (.int 0))) (eC (.str "line")))) (sRet (eAnd (eBin gEq (eUn gLen (eV 1)) (eC (.int 3))) (eAnd (eCall f_are_steps (aCons (eV 0) (aCons (eBin gIx (eV 1) (eC (.int 1))) aNil))) (eCall f_is_speed (aCons (eBin gIx (eV 1) (eC (.int 2))) aNil))))) sSkip) f_is_item_r3)
noncomputable def f_is_item : SF := runF 2 2 (sSeq (sIf (sOr (sNot (sOf (eUn (gIsi ["tuple"]) (eV 1)))) (sOr (sNot (sOf (eChain gLe gLe (eC (.int 2)) (eUn gLen (eV 1)) (eC (.int 3))))) (sNot (sOf (eUn (gIsi ["str"]) (eBin gIx (eV 1) (eC (.int 0)))))))) (sRet (eC (.bl false))) sSkip) f_is_item_r4)
noncomputable def f_are_figures_e1 : SE := (eBin (gIn true) (eV 1) (eC c_FIGURES))
noncomputable def f_are_figures : SF := runF 1 2 (sSeq (sIf (sOr (sNot (sOf (eChain gLe gLe (eC (.int 1)) (eUn gLen (eV 0)) (eC c_MOST_FIGURES)))) (sOf (eUn gAny (eLc (iMap (eV 0) gS) [1] (.nm 1) sTrue f_are_figures_e1)))) (sRet (eC (.bl false))) sSkip) (sRet (eOr (eBin gNe (eBin gIx (eV 0) (eC (.int 0))) (eC (.str "0"))) (eBin gEq (eV 0) (eC (.str "0"))))))
noncomputable def f_number_of_r1 : SS := (sSeq (sIf (sOf (eCall f_are_figures (aCons (eV 0) aNil))) (sRet (eUn gInt (eV 0))) sSkip) (sRet (eC .non)))
noncomputable def f_number_of : SF := runF 1 1 (sSeq (sIf (sAnd (sOf (eBin gEq (eSl gSlT (eV 0) oNone (oSome (eC (.int 1)))) (eC (.str "-")))) (sAnd (sOf (eBin gNe (eV 0) (eC (.str "-0")))) (sOf (eCall f_are_figures (aCons (eSl gSlT (eV 0) (oSome (eC (.int 1))) oNone) aNil))))) (sRet (eUn gNeg (eUn gInt (eSl gSlT (eV 0) (oSome (eC (.int 1))) oNone)))) sSkip) f_number_of_r1)
noncomputable def f_item_of_e1 : SE := (eCall f_number_of (aCons (eV 5) aNil))
noncomputable def f_item_of_r2 : SS := (sSeq (sSet 3 (eTup (aCons (eC (.str "line")) (aCons (eUn gTuple (eSl gSlL (eV 4) oNone (oSome (eUn gNeg (eC (.int 1)))))) (aCons (eBin gIx (eV 4) (eUn gNeg (eC (.int 1)))) aNil))))) sSkip)
noncomputable def f_item_of_r3 : SS := (sSeq (sIf (sAnd (sOf (eBin gEq (eBin gIx (eV 2) (eC (.int 0))) (eC (.str "line")))) (sOf (eBin gGt (eUn gLen (eV 2)) (eC (.int 2))))) (sSeq (sSet 4 (eLc (iMap (eSl gSlL (eV 2) (oSome (eC (.int 1))) oNone) gL) [5] (.nm 5) sTrue f_item_of_e1)) f_item_of_r2) (sIf (sAnd (sOf (eBin gEq (eBin gIx (eV 2) (eC (.int 0))) (eC (.str "wait")))) (sOf (eBin gEq (eUn gLen (eV 2)) (eC (.int 2))))) (sSet 3 (eTup (aCons (eC (.str "wait")) (aCons (eCall f_number_of (aCons (eBin gIx (eV 2) (eC (.int 1))) aNil)) aNil)))) (sIf (sAnd (sOf (eBin (gIn false) (eBin gIx (eV 2) (eC (.int 0))) (eTup (aCons (eC (.str "tool")) (aCons (eC (.str "mark")) aNil))))) (sOf (eBin gEq (eUn gLen (eV 2)) (eC (.int 2))))) (sSet 3 (eTup (aCons (eBin gIx (eV 2) (eC (.int 0))) (aCons (eBin gIx (eV 2) (eC (.int 1))) aNil)))) sSkip))) (sRet (eIf (sOf (eCall f_is_item (aCons (eV 0) (aCons (eV 3) aNil)))) (eV 3) (eC .non))))
noncomputable def f_item_of_r4 : SS := (sSeq (sSet 3 (eC .non)) f_item_of_r3)
noncomputable def f_item_of : SF := runF 2 6 (sSeq (sSet 2 (eSplit (eV 1) (eC (.str " ")))) f_item_of_r4)
noncomputable def f_read_items_r1 : SS := (sApp 2 (eV 5))
noncomputable def f_read_items_r2 : SS := (sSeq (sIf (sOr (sOf (eBin (gIsN false) (eV 5) (eC .non))) (sOf (eBin gEq (eV 3) (eC c_MOST_ITEMS)))) (sRaiseA "NoText" ["at"] (aCons (eC (.str "no item")) (aCons (eV 3) aNil))) sSkip) f_read_items_r1)
noncomputable def f_read_items_b1 : SS := (sSeq (sSet 5 (eCall f_item_of (aCons (eV 0) (aCons (eV 4) aNil)))) f_read_items_r2)
noncomputable def f_read_items_r3 : SS := (sSeq (sFor (iMap (eSplit (eV 1) (eC (.str "\n"))) gEnL) (.tp [3, 4]) f_read_items_b1) (sRet (eUn gTuple (eV 2))))
noncomputable def f_read_items_r4 : SS := (sSeq (sSet 2 (eLst aNil)) f_read_items_r3)
noncomputable def f_read_items_r5 : SS := (sSeq (sIf (sOf (eBin gEq (eV 1) (eC (.str "")))) (sRet (eTup aNil)) sSkip) f_read_items_r4)
noncomputable def f_read_items : SF := runF 2 6 (sSeq (sIf (sNot (sOf (eUn (gIsi ["str"]) (eV 1)))) (sRaiseA "NoText" ["at"] (aCons (eC (.str "no text")) (aCons (eC (.int 0)) aNil))) sSkip) f_read_items_r5)
noncomputable def f__law_is_whole : SF := runF 1 1 (sRet (eAnd (eUn (gIsi ["int"]) (eV 0)) (eNot (eUn (gIsi ["bool"]) (eV 0)))))
noncomputable def f__law_told_x1_NoText : List (String × T) → SS := fun args => (sSeq (sIf (sOf (eC (.bl false))) (sRet (eC (.str "another"))) sSkip) (sSeq (sIf (sOr (sNot (sOf (eC (.bl true)))) (sOr (sNot (sOf (eC (.bl true)))) (sNot (sOf (eCall f__law_is_whole (aCons (eX0 args "at") aNil)))))) (sRet (eC (.str "another"))) sSkip) (sRet (eX0 args "at"))))
noncomputable def f__law_told : SF := runF 2 3 (sTryM [("NoText", f__law_told_x1_NoText)] 2 (sRet (eCall f_read_items (aCons (eV 0) (aCons (eV 1) aNil)))))
noncomputable def f_law_r1 : SS := (sIf (sOr (sOf (eBin gNe (eUn (gIsi ["tuple"]) (eV 9)) (eUn (gIsi ["tuple"]) (eV 7)))) (sOf (eBin gNe (eV 9) (eV 7)))) (sRet (eC (.bl false))) sSkip)
noncomputable def f_law_b1 : SS := (sSeq (sSet 9 (eCall f__law_told (aCons (eV 4) (aCons (eV 6) aNil)))) f_law_r1)
noncomputable def f_law_r2 : SS := (sFor (iR1 (eC (.int 2))) (.nm 8) f_law_b1)
noncomputable def f_law_b2 : SS := (sSeq (sSet 7 (eCall f__law_due (aCons (eV 6) (aCons (eV 5) aNil)))) f_law_r2)
noncomputable def f_law_r3 : SS := (sFor (iMap (eLst (aCons (eCall f__law_text (aCons (eV 2) (aCons (eV 5) aNil))) (aCons (eCall f__law_text (aCons (eV 2) (aCons (eV 5) aNil))) (aCons (eV 3) aNil)))) gL) (.nm 6) f_law_b2)
noncomputable def f_law_r4 : SS := (sSeq (sSet 5 (eUn gLen (eBin gIx (eV 4) (eC (.int 0))))) f_law_r3)
noncomputable def f_law_r5 : SS := (sSeq (sSet 4 (eCall f__law_machine (aCons (eV 2) aNil))) f_law_r4)
noncomputable def f_law_r6 : SS := (sSeq (sSet 3 (eBin gIx (eLst (aCons (eC .non) (aCons (eC (.int 0)) (aCons (eC (.bl true)) (aCons (eLst aNil) (aCons (eLst (aCons (eC (.str "wait 5")) aNil)) (aCons (eTup (aCons (eC (.str "wait 5")) aNil)) (aCons (eTup aNil) (aCons (eBin gPow (eC (.int 10)) (eC (.int 39))) (aCons (eTup (aCons (eC (.str "wait")) (aCons (eC (.int 5)) aNil))) (aCons (eC (.bl false)) aNil))))))))))) (eCall f__law_take (aCons (eV 2) (aCons (eC (.int 10)) aNil))))) f_law_r5)
noncomputable def f_law_b3 : SS := (sSeq (sSet 2 (eCall f__law_bag (aCons (eV 0) (aCons (eV 1) aNil)))) f_law_r6)
noncomputable def f_law : SF := runF 1 10 (sSeq (sFor (iR1 (eBin gMax2 (eC (.int 1)) (eBin gMin2 (eC (.int 10)) (eUn gLen (eV 0))))) (.nm 1) f_law_b3) (sRet (eC (.bl true))))
end Lw
namespace Lw
open PySem PySem.Spec PyProof.Rows L2 GB
theorem sc_f__law_bag : FnScope ["_law_script", "_law_at", "_law_cell", "_law_mix", "_law_k"] ["_law_script", "_law_at"] (defScope (topS 37)) := ⟨rfl, rfl, rfl, by decide +kernel, rfl, by decide +kernel, by decide +kernel⟩
theorem sc_f__law_take : FnScope ["_law_bag_here", "_law_many", "_law_number", "_law_room", "_law_digit"] ["_law_bag_here", "_law_many"] (defScope (topS 38)) := ⟨rfl, rfl, rfl, by decide +kernel, rfl, by decide +kernel, by decide +kernel⟩
theorem sc_f__law_machine : FnScope ["_law_bag_here", "_law_axes", "_law_far", "_law_rails", "_law_bounds", "_law_axis", "_law_k"] ["_law_bag_here"] (defScope (topS 40)) := ⟨rfl, rfl, rfl, by decide +kernel, rfl, by decide +kernel, by decide +kernel⟩
theorem sc_f__law_word : FnScope ["_law_bag_here", "_law_word_here", "_law_some"] ["_law_bag_here", "_law_word_here"] (defScope (topS 50)) := ⟨rfl, rfl, rfl, by decide +kernel, rfl, by decide +kernel, by decide +kernel⟩
theorem sc_f__law_words_put : FnScope ["_law_bag_here", "_law_text_here", "_law_how", "_law_rows", "_law_k", "_law_words", "_law_j"] ["_law_bag_here", "_law_text_here"] (defScope (topS 51)) := ⟨rfl, rfl, rfl, by decide +kernel, rfl, by decide +kernel, by decide +kernel⟩
theorem sc_f__law_sign : FnScope ["_law_bag_here", "_law_signs"] ["_law_bag_here"] (defScope (topS 45)) := ⟨rfl, rfl, rfl, by decide +kernel, rfl, by decide +kernel, by decide +kernel⟩
theorem sc_f__law_signs_put : FnScope ["_law_bag_here", "_law_text_here", "_law_k", "_law_how", "_law_sign_here", "_law_at"] ["_law_bag_here", "_law_text_here"] (defScope (topS 52)) := ⟨rfl, rfl, rfl, by decide +kernel, rfl, by decide +kernel, by decide +kernel⟩
theorem sc_f__law_item_text : FnScope ["_law_item_here", "_law_step"] ["_law_item_here"] (defScope (topS 43)) := ⟨rfl, rfl, rfl, by decide +kernel, rfl, by decide +kernel, by decide +kernel⟩
theorem sc_f__law_name : FnScope ["_law_bag_here", "_law_k"] ["_law_bag_here"] (defScope (topS 41)) := ⟨rfl, rfl, rfl, by decide +kernel, rfl, by decide +kernel, by decide +kernel⟩
theorem sc_f__law_item : FnScope ["_law_bag_here", "_law_axes", "_law_sort", "_law_speed", "_law_most", "_law_steps", "_law_axis"] ["_law_bag_here", "_law_axes"] (defScope (topS 42)) := ⟨rfl, rfl, rfl, by decide +kernel, rfl, by decide +kernel, by decide +kernel⟩
theorem sc_f__law_text : FnScope ["_law_bag_here", "_law_axes", "_law_spoil", "_law_many", "_law_text_here", "_law_k"] ["_law_bag_here", "_law_axes"] (defScope (topS 53)) := ⟨rfl, rfl, rfl, by decide +kernel, rfl, by decide +kernel, by decide +kernel⟩
theorem sc_f__law_number_read : FnScope ["_law_word_here", "_law_low", "_law_high", "_law_rest", "_law_number", "_law_sign_here"] ["_law_word_here", "_law_low", "_law_high"] (defScope (topS 46)) := ⟨rfl, rfl, rfl, by decide +kernel, rfl, by decide +kernel, by decide +kernel⟩
theorem sc_f__law_line_read : FnScope ["_law_words", "_law_axes", "_law_steps", "_law_speed", "_law_word_here"] ["_law_words", "_law_axes"] (defScope (topS 47)) := ⟨rfl, rfl, rfl, by decide +kernel, rfl, by decide +kernel, by decide +kernel⟩
theorem sc_f__law_item_read : FnScope ["_law_text_here", "_law_axes", "_law_words", "_law_letters", "_law_number", "_law_sign_here"] ["_law_text_here", "_law_axes"] (defScope (topS 48)) := ⟨rfl, rfl, rfl, by decide +kernel, rfl, by decide +kernel, by decide +kernel⟩
theorem sc_f__law_due : FnScope ["_law_text_here", "_law_axes", "_law_found", "_law_row", "_law_item_here"] ["_law_text_here", "_law_axes"] (defScope (topS 49)) := ⟨rfl, rfl, rfl, by decide +kernel, rfl, by decide +kernel, by decide +kernel⟩
theorem sc_f_is_whole : FnScope ["thing"] ["thing"] (defScope (topS 14)) := ⟨rfl, rfl, rfl, by decide +kernel, rfl, by decide +kernel, by decide +kernel⟩
theorem sc_f_is_within : FnScope ["thing", "least", "most"] ["thing", "least", "most"] (defScope (topS 16)) := ⟨rfl, rfl, rfl, by decide +kernel, rfl, by decide +kernel, by decide +kernel⟩
theorem sc_f_is_name : FnScope ["thing", "sign"] ["thing"] (defScope (topS 26)) := ⟨rfl, rfl, rfl, by decide +kernel, rfl, by decide +kernel, by decide +kernel⟩
theorem sc_f_are_steps : FnScope ["machine", "thing", "step"] ["machine", "thing"] (defScope (topS 24)) := ⟨rfl, rfl, rfl, by decide +kernel, rfl, by decide +kernel, by decide +kernel⟩
theorem sc_f_is_speed : FnScope ["thing"] ["thing"] (defScope (topS 25)) := ⟨rfl, rfl, rfl, by decide +kernel, rfl, by decide +kernel, by decide +kernel⟩
theorem sc_f_is_item : FnScope ["machine", "thing"] ["machine", "thing"] (defScope (topS 27)) := ⟨rfl, rfl, rfl, by decide +kernel, rfl, by decide +kernel, by decide +kernel⟩
theorem sc_f_are_figures : FnScope ["text", "sign"] ["text"] (defScope (topS 32)) := ⟨rfl, rfl, rfl, by decide +kernel, rfl, by decide +kernel, by decide +kernel⟩
theorem sc_f_number_of : FnScope ["text"] ["text"] (defScope (topS 33)) := ⟨rfl, rfl, rfl, by decide +kernel, rfl, by decide +kernel, by decide +kernel⟩
theorem sc_f_item_of : FnScope ["machine", "text", "words", "found", "numbers", "word"] ["machine", "text"] (defScope (topS 34)) := ⟨rfl, rfl, rfl, by decide +kernel, rfl, by decide +kernel, by decide +kernel⟩
theorem sc_f_read_items : FnScope ["machine", "text", "found", "at", "row", "item"] ["machine", "text"] (defScope (topS 35)) := ⟨rfl, rfl, rfl, by decide +kernel, rfl, by decide +kernel, by decide +kernel⟩
theorem sc_f__law_is_whole : FnScope ["_law_thing"] ["_law_thing"] (defScope (topS 39)) := ⟨rfl, rfl, rfl, by decide +kernel, rfl, by decide +kernel, by decide +kernel⟩
theorem sc_f__law_told : FnScope ["_law_machine_here", "_law_thing", "e"] ["_law_machine_here", "_law_thing"] (defScope (topS 54)) := ⟨rfl, rfl, rfl, by decide +kernel, rfl, by decide +kernel, by decide +kernel⟩
theorem sc_f_law : FnScope ["_law_script", "_law_at", "_law_bag_here", "_law_odd", "_law_machine_here", "_law_axes", "_law_thing", "_law_due_here", "_law_again", "_law_told_here"] ["_law_script"] (defScope (topS 55)) := ⟨rfl, rfl, rfl, by decide +kernel, rfl, by decide +kernel, by decide +kernel⟩
/-- what of the top the walks ask -/
structure Tx (K : PySem.W.Frag) (mg : Str → Option Value) (C_Full C_GlideError C_Moving C_NoFraction C_NoItem C_NoLine C_NoMachine C_NoPlace C_NoRate C_NoTape C_NoText C_OffRails : Addr) : Prop where
  z_ValueError : mg "ValueError" = none
  z_abs : mg "abs" = none
  z_all : mg "all" = none
  z_any : mg "any" = none
  z_bool : mg "bool" = none
  z_enumerate : mg "enumerate" = none
  z_int : mg "int" = none
  z_isinstance : mg "isinstance" = none
  z_len : mg "len" = none
  z_max : mg "max" = none
  z_min : mg "min" = none
  z_range : mg "range" = none
  z_str : mg "str" = none
  z_tuple : mg "tuple" = none
  g_FIGURES : GlobT K mg "FIGURES" c_FIGURES
  g_MOST_FIGURES : GlobT K mg "MOST_FIGURES" c_MOST_FIGURES
  g_MOST_ITEMS : GlobT K mg "MOST_ITEMS" c_MOST_ITEMS
  g_MOST_LETTERS : GlobT K mg "MOST_LETTERS" c_MOST_LETTERS
  g_MOST_SPEED : GlobT K mg "MOST_SPEED" c_MOST_SPEED
  g_MOST_STEPS : GlobT K mg "MOST_STEPS" c_MOST_STEPS
  g_MOST_WAIT : GlobT K mg "MOST_WAIT" c_MOST_WAIT
  g_SIDES : GlobT K mg "SIDES" c_SIDES
  g_SMALL : GlobT K mg "SMALL" c_SMALL
  gc_Full : mg "Full" = some (.ref C_Full)
  gc_GlideError : mg "GlideError" = some (.ref C_GlideError)
  gc_Moving : mg "Moving" = some (.ref C_Moving)
  gc_NoFraction : mg "NoFraction" = some (.ref C_NoFraction)
  gc_NoItem : mg "NoItem" = some (.ref C_NoItem)
  gc_NoLine : mg "NoLine" = some (.ref C_NoLine)
  gc_NoMachine : mg "NoMachine" = some (.ref C_NoMachine)
  gc_NoPlace : mg "NoPlace" = some (.ref C_NoPlace)
  gc_NoRate : mg "NoRate" = some (.ref C_NoRate)
  gc_NoTape : mg "NoTape" = some (.ref C_NoTape)
  gc_NoText : mg "NoText" = some (.ref C_NoText)
  gc_OffRails : mg "OffRails" = some (.ref C_OffRails)
  xi_NoText : ExcC K C_NoText
  ex_NoText_GlideError : PySem.W.exmOne K (.ref C_NoText) (.ref C_GlideError) = some true
  kt_NoText_NoText : PySem.W.kitOne K (.ref C_NoText) (.ref C_NoText) = some true
  kt_NoText_ValueError : PySem.W.kitOne K (.ref C_NoText) (.type "ValueError") = some true
  ka_NoText_Full_Moving_NoFraction_NoItem_NoLine_NoMachine_NoPlace_NoRate_NoTape_OffRails : PySem.W.kitAny K (.ref C_NoText) [.ref C_Full, .ref C_Moving, .ref C_NoFraction, .ref C_NoItem, .ref C_NoLine, .ref C_NoMachine, .ref C_NoPlace, .ref C_NoRate, .ref C_NoTape, .ref C_OffRails] = some false
  xf_NoText_at : PySem.W.findIn K (.ref C_NoText) (Str.ofString "at") = some none
  sg_GlideError : PySem.W.specialIn K (.ref C_GlideError) "__getattribute__" = some (some (.builtin "type.__getattribute__"))
  sr_GlideError : PySem.W.readsIn K C_GlideError (.type "type") = true
  sv_GlideError : PySem.W.findCls K (.ref C_GlideError) (.type "type") "__init__" = some (.val (.builtin "ValueError.__init__"))
section
variable {C_Full C_GlideError C_Moving C_NoFraction C_NoItem C_NoLine C_NoMachine C_NoPlace C_NoRate C_NoTape C_NoText C_OffRails : Addr}
variable {P : Program} {w : World} {K : PySem.W.Frag} {mg : Str → Option Value} {base : Heap}
theorem ok_f__law_bag (t : Tx K mg C_Full C_GlideError C_Moving C_NoFraction C_NoItem C_NoLine C_NoMachine C_NoPlace C_NoRate C_NoTape C_NoText C_OffRails) (W : Here K mg "_law_bag" (topS 37) ["_law_script", "_law_at"])  : CalB P w K mg base 1 "_law_bag" .fz f__law_bag :=
  calB (lin' := []) W sc_f__law_bag fun f cdv A outer s H E en hx => by
  have nd := sc_f__law_bag.nd
  exact (pssb_cons (psb_set (i := 2) rfl nd rfl (by first | exact Or.inl rfl | exact Or.inr rfl) pb_int) (pssb_cons (psb_if (ptb_cmp op_lt o2_lt (nomark _) (pb_v 1 rfl) (pb_c1 call_len o1_len (by rfl) t.z_len PySem.boot_len (pb_v 0 rfl))) (pssb_one (psb_set (i := 2) rfl nd rfl (by first | exact Or.inl rfl | exact Or.inr rfl) (pb_c1 call_abs o1_abs (by rfl) t.z_abs PyProof.Rows.boot_abs (pb_ix ix_seq o2_ix (fun _ _ => rfl) (pb_v 0 rfl) (pb_v 1 rfl))))) pssb_nil) (pssb_cons (psb_set (i := 3) rfl nd rfl (by first | exact Or.inl rfl | exact Or.inr rfl) (pb_op op_addA o2_add (pb_op op_addA o2_add (pb_op op_mulX o2_mul (pb_op op_mulX o2_mul pb_int (pb_v 1 rfl)) (pb_v 1 rfl)) (pb_op op_mulX o2_mul pb_int (pb_v 1 rfl))) pb_int)) (pssb_cons (psb_for hx.po rfl (pib_r1 (by rfl) t.z_range (pb_c2 (call_min2 rfl) o2_min (by rfl) t.z_min PyProof.Rows.boot_min (pb_c1 call_len o1_len (by rfl) t.z_len PySem.boot_len (pb_v 0 rfl)) pb_int)) (gok_nm rfl) (pg_name (i := 4) nd rfl (by first | exact Or.inl rfl | exact Or.inr rfl)) (pssb_one (psb_set (i := 3) rfl nd rfl (by first | exact Or.inl rfl | exact Or.inr rfl) (pb_op op_modN o2_mod (pb_op op_pow o2_pow (pb_op op_addA o2_add (pb_op op_addA o2_add (pb_op op_mulX o2_mul (pb_v 3 rfl) pb_int) (pb_op op_modN o2_mod (pb_ix ix_seq o2_ix (fun _ _ => rfl) (pb_v 0 rfl) (pb_v 4 rfl)) pb_int)) (pb_op op_mulX o2_mul (pb_v 4 rfl) (pb_v 4 rfl))) pb_int) pb_int)))) (pssb_cons (psb_if (ptb_cmp op_lt o2_lt (nomark _) (pb_v 2 rfl) (pb_op op_pow o2_pow pb_int pb_int)) (pssb_one (psb_set (i := 2) rfl nd rfl (by first | exact Or.inl rfl | exact Or.inr rfl) pb_int)) pssb_nil) (pssb_one (psb_ret (pb_box (pab_cons (pb_v 2 rfl) (pab_cons (pb_v 3 rfl) pab_nil))) (fun _ _ _ _ _ _ _ => rid))))))))
theorem ok_f__law_take (t : Tx K mg C_Full C_GlideError C_Moving C_NoFraction C_NoItem C_NoLine C_NoMachine C_NoPlace C_NoRate C_NoTape C_NoText C_OffRails) (W : Here K mg "_law_take" (topS 38) ["_law_bag_here", "_law_many"])  : CalB P w K mg base 1 "_law_take" .fz f__law_take :=
  calB (lin' := []) W sc_f__law_take fun f cdv A outer s H E en hx => by
  have nd := sc_f__law_take.nd
  exact (pssb_cons (psb_if (ptb_cmp op_gt o2_gt (nomark _) (pb_ix ix_seq o2_ix (fun _ _ => rfl) (pb_v 0 rfl) pb_int) pb_int) (pssb_cons (psb_set (i := 4) rfl nd rfl (by first | exact Or.inl rfl | exact Or.inr rfl) (pb_op op_modN o2_mod (pb_ix ix_seq o2_ix (fun _ _ => rfl) (pb_v 0 rfl) pb_int) (pb_v 1 rfl))) (pssb_cons (psb_putB (pb_v 0 rfl) pb_int (pb_op op_divA o2_div (pb_ix ix_seq o2_ix (fun _ _ => rfl) (pb_v 0 rfl) pb_int) (pb_v 1 rfl))) (pssb_one (psb_ret (pb_v 4 rfl) (fun _ _ _ _ _ _ _ => rid))))) pssb_nil) (pssb_cons (psb_set (i := 2) rfl nd rfl (by first | exact Or.inl rfl | exact Or.inr rfl) pb_int) (pssb_cons (psb_set (i := 3) rfl nd rfl (by first | exact Or.inl rfl | exact Or.inr rfl) pb_int) (pssb_cons (psb_while hx.po (ptb_cmp op_lt o2_lt (nomark _) (pb_v 3 rfl) (pb_v 1 rfl)) (pssb_cons (psb_putB (pb_v 0 rfl) pb_int (pb_op op_modN o2_mod (pb_op op_pow o2_pow (pb_op op_addA o2_add (pb_op op_mulX o2_mul (pb_ix ix_seq o2_ix (fun _ _ => rfl) (pb_v 0 rfl) pb_int) pb_int) pb_int) pb_int) pb_int)) (pssb_cons (psb_set (i := 2) rfl nd rfl (by first | exact Or.inl rfl | exact Or.inr rfl) (pb_op op_addA o2_add (pb_op op_mulX o2_mul (pb_v 2 rfl) pb_int) (pb_op op_modN o2_mod (pb_op op_mulX o2_mul (pb_op op_divA o2_div (pb_ix ix_seq o2_ix (fun _ _ => rfl) (pb_v 0 rfl) pb_int) pb_int) pb_int) pb_int))) (pssb_one (psb_set (i := 3) rfl nd rfl (by first | exact Or.inl rfl | exact Or.inr rfl) (pb_op op_mulX o2_mul (pb_v 3 rfl) pb_int)))))) (pssb_one (psb_ret (pb_op op_modN o2_mod (pb_v 2 rfl) (pb_v 1 rfl)) (fun _ _ _ _ _ _ _ => rid)))))))
theorem ok_f__law_machine (t : Tx K mg C_Full C_GlideError C_Moving C_NoFraction C_NoItem C_NoLine C_NoMachine C_NoPlace C_NoRate C_NoTape C_NoText C_OffRails) (W : Here K mg "_law_machine" (topS 40) ["_law_bag_here"]) (c_f__law_take : CalB P w K mg base 1 "_law_take" .fz f__law_take) : CalB P w K mg base 2 "_law_machine" .fz f__law_machine :=
  calB (lin' := []) W sc_f__law_machine fun f cdv A outer s H E en hx => by
  have nd := sc_f__law_machine.nd
  exact (pssb_cons (psb_set (i := 1) rfl nd rfl (by first | exact Or.inl rfl | exact Or.inr rfl) (pb_op op_addA o2_add pb_int (pb_call c_f__law_take hx.room (by decide) hx.tk (by rfl) (pab_cons (pb_v 0 rfl) (pab_cons pb_int pab_nil))))) (pssb_cons (psb_set (i := 2) rfl nd rfl (by first | exact Or.inl rfl | exact Or.inr rfl) (pb_ix ix_seq o2_ix (fun _ _ => rfl) (pb_lst (pab_cons pb_int (pab_cons pb_int pab_nil))) (pb_call c_f__law_take hx.room (by decide) hx.tk (by rfl) (pab_cons (pb_v 0 rfl) (pab_cons pb_int pab_nil))))) (pssb_cons (psb_set (i := 3) rfl nd rfl (by first | exact Or.inl rfl | exact Or.inr rfl) (pb_y1 call_tuple_of o1_tuple (by rfl) t.z_tuple PyProof.Rows.boot_tuple (pb_lc (own := [("_law_axis", 5)]) rfl nd (pib_r1 (by rfl) t.z_range (pb_v 1 rfl)) (blkOk_by (N := ["_law_bag_here", "_law_axes", "_law_far", "_law_rails", "_law_bounds", "_law_axis", "_law_k"]) (sc := defScope (topS 40)) (by decide +kernel)) (gok_nm rfl) (by decide) tt_yes (fun _ _ _ _ _ => (pg_name (i := 5) nd rfl (by first | exact Or.inl rfl | exact Or.inr rfl))) (fun _ _ _ _ _ => pts_nil) (fun _ _ _ _ _ => (pb_op op_addA o2_add pb_int (pb_call c_f__law_take hx.room (by decide) takesN0 (by rfl) (pab_cons (pb_v 0 rfl) (pab_cons (pb_v 2 rfl) pab_nil)))))))) (pssb_cons (psb_set (i := 4) rfl nd rfl (by first | exact Or.inl rfl | exact Or.inr rfl) (pb_y1 call_tuple_of o1_tuple (by rfl) t.z_tuple PyProof.Rows.boot_tuple (pb_lc (own := [("_law_k", 6)]) rfl nd (pib_r1 (by rfl) t.z_range pb_int) (blkOk_by (N := ["_law_bag_here", "_law_axes", "_law_far", "_law_rails", "_law_bounds", "_law_axis", "_law_k"]) (sc := defScope (topS 40)) (by decide +kernel)) (gok_nm rfl) (by decide) tt_yes (fun _ _ _ _ _ => (pg_name (i := 6) nd rfl (by first | exact Or.inl rfl | exact Or.inr rfl))) (fun _ _ _ _ _ => pts_nil) (fun _ _ _ _ _ => (pb_op op_addA o2_add pb_int (pb_call c_f__law_take hx.room (by decide) takesN0 (by rfl) (pab_cons (pb_v 0 rfl) (pab_cons pb_int pab_nil)))))))) (pssb_one (psb_ret (pb_op op_addA o2_add (pb_op op_addA o2_add (pb_tup (pab_cons (pb_v 3 rfl) pab_nil)) (pb_v 4 rfl)) (pb_tup (pab_cons (pb_op op_addA o2_add pb_int (pb_call c_f__law_take hx.room (by decide) hx.tk (by rfl) (pab_cons (pb_v 0 rfl) (pab_cons pb_int pab_nil)))) pab_nil))) (fun _ _ _ _ _ _ _ => rid)))))))
theorem ok_f__law_word (t : Tx K mg C_Full C_GlideError C_Moving C_NoFraction C_NoItem C_NoLine C_NoMachine C_NoPlace C_NoRate C_NoTape C_NoText C_OffRails) (W : Here K mg "_law_word" (topS 50) ["_law_bag_here", "_law_word_here"]) (c_f__law_take : CalB P w K mg base 1 "_law_take" .fz f__law_take) : CalB P w K mg base 2 "_law_word" .fz f__law_word :=
  calB (lin' := []) W sc_f__law_word fun f cdv A outer s H E en hx => by
  have nd := sc_f__law_word.nd
  exact (pssb_cons (psb_setO (i := 2) nd rfl (by first | exact Or.inl rfl | exact Or.inr rfl) (pb_lst (pab_cons pb_str (pab_cons pb_str (pab_cons (pb_op op_addA o2_add pb_str (pb_v 1 rfl)) (pab_cons (pb_op op_addA o2_add pb_str (pb_v 1 rfl)) (pab_cons (pb_op op_addA o2_add (pb_v 1 rfl) pb_str) (pab_cons pb_str (pab_cons pb_str (pab_cons pb_str (pab_cons pb_str (pab_cons pb_str (pab_cons pb_str (pab_cons pb_str pab_nil)))))))))))))) (pssb_cons (psb_setO2 (i := 2) rfl nd rfl (by first | exact Or.inl rfl | exact Or.inr rfl) (pb_op op_catL o2_catL (pb_vl 2 rfl) (pb_lst (pab_cons pb_str (pab_cons pb_str (pab_cons pb_str (pab_cons pb_str (pab_cons pb_str (pab_cons pb_str (pab_cons pb_str (pab_cons pb_str (pab_cons pb_str (pab_cons pb_str (pab_cons pb_str (pab_cons pb_str pab_nil))))))))))))))) (pssb_one (psb_ret (pb_ix ix_seq o2_ix (fun _ _ => rfl) (pb_vl 2 rfl) (pb_call c_f__law_take hx.room (by decide) hx.tk (by rfl) (pab_cons (pb_v 0 rfl) (pab_cons (pb_c1 call_len o1_len (by rfl) t.z_len PySem.boot_len (pb_vl 2 rfl)) pab_nil)))) (fun _ _ _ _ _ _ _ => rid)))))
theorem ok_f__law_words_put (t : Tx K mg C_Full C_GlideError C_Moving C_NoFraction C_NoItem C_NoLine C_NoMachine C_NoPlace C_NoRate C_NoTape C_NoText C_OffRails) (W : Here K mg "_law_words_put" (topS 51) ["_law_bag_here", "_law_text_here"]) (c_f__law_take : CalB P w K mg base 1 "_law_take" .fz f__law_take) (c_f__law_word : CalB P w K mg base 2 "_law_word" .fz f__law_word) : CalB P w K mg base 3 "_law_words_put" .fz f__law_words_put :=
  calB (lin' := []) W sc_f__law_words_put fun f cdv A outer s H E en hx => by
  have nd := sc_f__law_words_put.nd
  exact (pssb_cons (psb_set (i := 2) rfl nd rfl (by first | exact Or.inl rfl | exact Or.inr rfl) (pb_call c_f__law_take hx.room (by decide) hx.tk (by rfl) (pab_cons (pb_v 0 rfl) (pab_cons pb_int pab_nil)))) (pssb_cons (psb_setO (i := 3) nd rfl (by first | exact Or.inl rfl | exact Or.inr rfl) (pb_split (pb_v 1 rfl) pb_str)) (pssb_cons (psb_set (i := 4) rfl nd rfl (by first | exact Or.inl rfl | exact Or.inr rfl) (pb_call c_f__law_take hx.room (by decide) hx.tk (by rfl) (pab_cons (pb_v 0 rfl) (pab_cons (pb_c1 call_len o1_len (by rfl) t.z_len PySem.boot_len (pb_vl 3 rfl)) pab_nil)))) (pssb_cons (psb_setO (i := 5) nd rfl (by first | exact Or.inl rfl | exact Or.inr rfl) (pb_split (pb_ix ix_seq o2_ix (fun _ _ => rfl) (pb_vl 3 rfl) (pb_v 4 rfl)) pb_str)) (pssb_cons (psb_set (i := 6) rfl nd rfl (by first | exact Or.inl rfl | exact Or.inr rfl) (pb_call c_f__law_take hx.room (by decide) hx.tk (by rfl) (pab_cons (pb_v 0 rfl) (pab_cons (pb_c1 call_len o1_len (by rfl) t.z_len PySem.boot_len (pb_vl 5 rfl)) pab_nil)))) (pssb_cons (psb_if (ptb_cmp (op_eqD hx.room.units) o2_eq (nomark _) (pb_v 2 rfl) pb_int) (pssb_one (psb_setO2 (i := 5) rfl nd rfl (by first | exact Or.inl rfl | exact Or.inr rfl) (pb_op op_catL o2_catL (pb_slice sl_list o3_list (pb_vl 5 rfl) pob_none (pob_some (pb_v 6 rfl))) (pb_slice sl_list o3_list (pb_vl 5 rfl) (pob_some (pb_op op_addA o2_add (pb_v 6 rfl) pb_int)) pob_none)))) (pssb_one (psb_if (ptb_cmp (op_eqD hx.room.units) o2_eq (nomark _) (pb_v 2 rfl) pb_int) (pssb_one (psb_setO2 (i := 5) rfl nd rfl (by first | exact Or.inl rfl | exact Or.inr rfl) (pb_op op_catL o2_catL (pb_op op_catL o2_catL (pb_slice sl_list o3_list (pb_vl 5 rfl) pob_none (pob_some (pb_v 6 rfl))) (pb_lst (pab_cons (pb_call c_f__law_word hx.room (by decide) hx.tk (by rfl) (pab_cons (pb_v 0 rfl) (pab_cons (pb_ix ix_seq o2_ix (fun _ _ => rfl) (pb_vl 5 rfl) (pb_v 6 rfl)) pab_nil))) pab_nil))) (pb_slice sl_list o3_list (pb_vl 5 rfl) (pob_some (pb_v 6 rfl)) pob_none)))) (pssb_one (psb_setO2 (i := 5) rfl nd rfl (by first | exact Or.inl rfl | exact Or.inr rfl) (pb_op op_catL o2_catL (pb_op op_catL o2_catL (pb_slice sl_list o3_list (pb_vl 5 rfl) pob_none (pob_some (pb_v 6 rfl))) (pb_lst (pab_cons (pb_call c_f__law_word hx.room (by decide) hx.tk (by rfl) (pab_cons (pb_v 0 rfl) (pab_cons (pb_ix ix_seq o2_ix (fun _ _ => rfl) (pb_vl 5 rfl) (pb_v 6 rfl)) pab_nil))) pab_nil))) (pb_slice sl_list o3_list (pb_vl 5 rfl) (pob_some (pb_op op_addA o2_add (pb_v 6 rfl) pb_int)) pob_none))))))) (pssb_one (psb_ret (pb_join pb_str (pb_op op_catL o2_catL (pb_op op_catL o2_catL (pb_slice sl_list o3_list (pb_vl 3 rfl) pob_none (pob_some (pb_v 4 rfl))) (pb_lst (pab_cons (pb_join pb_str (pb_vl 5 rfl)) pab_nil))) (pb_slice sl_list o3_list (pb_vl 3 rfl) (pob_some (pb_op op_addA o2_add (pb_v 4 rfl) pb_int)) pob_none))) (fun _ _ _ _ _ _ _ => rid)))))))))
theorem ok_f__law_sign (t : Tx K mg C_Full C_GlideError C_Moving C_NoFraction C_NoItem C_NoLine C_NoMachine C_NoPlace C_NoRate C_NoTape C_NoText C_OffRails) (W : Here K mg "_law_sign" (topS 45) ["_law_bag_here"]) (c_f__law_take : CalB P w K mg base 1 "_law_take" .fz f__law_take) : CalB P w K mg base 2 "_law_sign" .fz f__law_sign :=
  calB (lin' := []) W sc_f__law_sign fun f cdv A outer s H E en hx => by
  have nd := sc_f__law_sign.nd
  exact (pssb_cons (psb_set (i := 1) rfl nd rfl (by first | exact Or.inl rfl | exact Or.inr rfl) pb_str) (pssb_one (psb_ret (pb_ix ix_seq o2_ix (fun _ _ => rfl) (pb_op op_addA o2_add (pb_v 1 rfl) pb_str) (pb_call c_f__law_take hx.room (by decide) hx.tk (by rfl) (pab_cons (pb_v 0 rfl) (pab_cons (pb_op op_addA o2_add (pb_c1 call_len o1_len (by rfl) t.z_len PySem.boot_len (pb_v 1 rfl)) pb_int) pab_nil)))) (fun _ _ _ _ _ _ _ => rid))))
theorem ok_f__law_signs_put (t : Tx K mg C_Full C_GlideError C_Moving C_NoFraction C_NoItem C_NoLine C_NoMachine C_NoPlace C_NoRate C_NoTape C_NoText C_OffRails) (W : Here K mg "_law_signs_put" (topS 52) ["_law_bag_here", "_law_text_here"]) (c_f__law_take : CalB P w K mg base 1 "_law_take" .fz f__law_take) (c_f__law_sign : CalB P w K mg base 2 "_law_sign" .fz f__law_sign) : CalB P w K mg base 3 "_law_signs_put" .fz f__law_signs_put :=
  calB (lin' := []) W sc_f__law_signs_put fun f cdv A outer s H E en hx => by
  have nd := sc_f__law_signs_put.nd
  exact (pssb_cons (psb_for hx.po rfl (pib_r1 (by rfl) t.z_range (pb_op op_addA o2_add pb_int (pb_call c_f__law_take hx.room (by decide) hx.tk (by rfl) (pab_cons (pb_v 0 rfl) (pab_cons pb_int pab_nil))))) (gok_nm rfl) (pg_name (i := 2) nd rfl (by first | exact Or.inl rfl | exact Or.inr rfl)) (pssb_cons (psb_set (i := 3) rfl nd rfl (by first | exact Or.inl rfl | exact Or.inr rfl) (pb_call c_f__law_take hx.room (by decide) hx.tk (by rfl) (pab_cons (pb_v 0 rfl) (pab_cons pb_int pab_nil)))) (pssb_cons (psb_set (i := 4) rfl nd rfl (by first | exact Or.inl rfl | exact Or.inr rfl) (pb_call c_f__law_sign hx.room (by decide) hx.tk (by rfl) (pab_cons (pb_v 0 rfl) pab_nil))) (pssb_cons (psb_set (i := 5) rfl nd rfl (by first | exact Or.inl rfl | exact Or.inr rfl) (pb_call c_f__law_take hx.room (by decide) hx.tk (by rfl) (pab_cons (pb_v 0 rfl) (pab_cons (pb_op op_addA o2_add (pb_c1 call_len o1_len (by rfl) t.z_len PySem.boot_len (pb_v 1 rfl)) pb_int) pab_nil)))) (pssb_one (psb_set (i := 1) rfl nd rfl (by first | exact Or.inl rfl | exact Or.inr rfl) (pb_ix ix_seq o2_ix (fun _ _ => rfl) (pb_lst (pab_cons (pb_op op_addA o2_add (pb_slice sl_ts o3_ts (pb_v 1 rfl) pob_none (pob_some (pb_v 5 rfl))) (pb_slice sl_ts o3_ts (pb_v 1 rfl) (pob_some (pb_op op_addA o2_add (pb_v 5 rfl) pb_int)) pob_none)) (pab_cons (pb_op op_addA o2_add (pb_op op_addA o2_add (pb_slice sl_ts o3_ts (pb_v 1 rfl) pob_none (pob_some (pb_v 5 rfl))) (pb_v 4 rfl)) (pb_slice sl_ts o3_ts (pb_v 1 rfl) (pob_some (pb_v 5 rfl)) pob_none)) (pab_cons (pb_op op_addA o2_add (pb_op op_addA o2_add (pb_slice sl_ts o3_ts (pb_v 1 rfl) pob_none (pob_some (pb_v 5 rfl))) (pb_v 4 rfl)) (pb_slice sl_ts o3_ts (pb_v 1 rfl) (pob_some (pb_op op_addA o2_add (pb_v 5 rfl) pb_int)) pob_none)) pab_nil)))) (pb_v 3 rfl)))))))) (pssb_one (psb_ret (pb_v 1 rfl) (fun _ _ _ _ _ _ _ => rid))))
theorem ok_f__law_item_text (t : Tx K mg C_Full C_GlideError C_Moving C_NoFraction C_NoItem C_NoLine C_NoMachine C_NoPlace C_NoRate C_NoTape C_NoText C_OffRails) (W : Here K mg "_law_item_text" (topS 43) ["_law_item_here"])  : CalB P w K mg base 1 "_law_item_text" .fz f__law_item_text :=
  calB (lin' := []) W sc_f__law_item_text fun f cdv A outer s H E en hx => by
  have nd := sc_f__law_item_text.nd
  exact (pssb_cons (psb_if (ptb_cmp (op_eqD hx.room.units) o2_eq (nomark _) (pb_ix ix_seq o2_ix (fun _ _ => rfl) (pb_v 0 rfl) pb_int) pb_str) (pssb_one (psb_ret (pb_op op_addA o2_add (pb_op op_addA o2_add (pb_op op_addA o2_add pb_str (pb_join pb_str (pb_lc (own := [("_law_step", 1)]) rfl nd (pib_tup (pb_ix ix_seq o2_ix (fun _ _ => rfl) (pb_v 0 rfl) pb_int)) (blkOk_by (N := ["_law_item_here", "_law_step"]) (sc := defScope (topS 43)) (by decide +kernel)) (gok_nm rfl) (by decide) tt_yes (fun _ _ _ _ _ => (pg_name (i := 1) nd rfl (by first | exact Or.inl rfl | exact Or.inr rfl))) (fun _ _ _ _ _ => pts_nil) (fun _ _ _ _ _ => (pb_y1 call_strA o1_str (by rfl) t.z_str PyProof.Rows.boot_str (pb_v 1 rfl)))))) pb_str) (pb_y1 call_strA o1_str (by rfl) t.z_str PyProof.Rows.boot_str (pb_ix ix_seq o2_ix (fun _ _ => rfl) (pb_v 0 rfl) pb_int))) (fun _ _ _ _ _ _ _ => rid))) pssb_nil) (pssb_one (psb_ret (pb_op op_addA o2_add (pb_op op_addA o2_add (pb_ix ix_seq o2_ix (fun _ _ => rfl) (pb_v 0 rfl) pb_int) pb_str) (pb_y1 call_strA o1_str (by rfl) t.z_str PyProof.Rows.boot_str (pb_ix ix_seq o2_ix (fun _ _ => rfl) (pb_v 0 rfl) pb_int))) (fun _ _ _ _ _ _ _ => rid))))
theorem ok_f__law_name (t : Tx K mg C_Full C_GlideError C_Moving C_NoFraction C_NoItem C_NoLine C_NoMachine C_NoPlace C_NoRate C_NoTape C_NoText C_OffRails) (W : Here K mg "_law_name" (topS 41) ["_law_bag_here"]) (c_f__law_take : CalB P w K mg base 1 "_law_take" .fz f__law_take) : CalB P w K mg base 2 "_law_name" .fz f__law_name :=
  calB (lin' := []) W sc_f__law_name fun f cdv A outer s H E en hx => by
  have nd := sc_f__law_name.nd
  exact (pssb_one (psb_ret (pb_join pb_str (pb_lc (own := [("_law_k", 1)]) rfl nd (pib_r1 (by rfl) t.z_range (pb_op op_addA o2_add pb_int (pb_call c_f__law_take hx.room (by decide) hx.tk (by rfl) (pab_cons (pb_v 0 rfl) (pab_cons pb_int pab_nil))))) (blkOk_by (N := ["_law_bag_here", "_law_k"]) (sc := defScope (topS 41)) (by decide +kernel)) (gok_nm rfl) (by decide) tt_yes (fun _ _ _ _ _ => (pg_name (i := 1) nd rfl (by first | exact Or.inl rfl | exact Or.inr rfl))) (fun _ _ _ _ _ => pts_nil) (fun _ _ _ _ _ => (pb_ix ix_seq o2_ix (fun _ _ => rfl) pb_str (pb_call c_f__law_take hx.room (by decide) takesN0 (by rfl) (pab_cons (pb_v 0 rfl) (pab_cons pb_int pab_nil))))))) (fun _ _ _ _ _ _ _ => rid)))
theorem ok_f__law_item (t : Tx K mg C_Full C_GlideError C_Moving C_NoFraction C_NoItem C_NoLine C_NoMachine C_NoPlace C_NoRate C_NoTape C_NoText C_OffRails) (W : Here K mg "_law_item" (topS 42) ["_law_bag_here", "_law_axes"]) (c_f__law_take : CalB P w K mg base 1 "_law_take" .fz f__law_take) (c_f__law_name : CalB P w K mg base 2 "_law_name" .fz f__law_name) : CalB P w K mg base 3 "_law_item" .fz f__law_item :=
  calB (lin' := []) W sc_f__law_item fun f cdv A outer s H E en hx => by
  have nd := sc_f__law_item.nd
  exact (pssb_cons (psb_set (i := 2) rfl nd rfl (by first | exact Or.inl rfl | exact Or.inr rfl) (pb_call c_f__law_take hx.room (by decide) hx.tk (by rfl) (pab_cons (pb_v 0 rfl) (pab_cons pb_int pab_nil)))) (pssb_cons (psb_if (ptb_cmp (op_eqD hx.room.units) o2_eq (nomark _) (pb_v 2 rfl) pb_int) (pssb_one (psb_ret (pb_tup (pab_cons pb_str (pab_cons (pb_op op_addA o2_add pb_int (pb_call c_f__law_take hx.room (by decide) hx.tk (by rfl) (pab_cons (pb_v 0 rfl) (pab_cons pb_int pab_nil)))) pab_nil))) (fun _ _ _ _ _ _ _ => rid))) pssb_nil) (pssb_cons (psb_if (ptb_cmp (op_eqD hx.room.units) o2_eq (nomark _) (pb_v 2 rfl) pb_int) (pssb_one (psb_ret (pb_tup (pab_cons pb_str (pab_cons (pb_ix ix_seq o2_ix (fun _ _ => rfl) (pb_lst (pab_cons pb_str (pab_cons pb_str pab_nil))) (pb_call c_f__law_take hx.room (by decide) hx.tk (by rfl) (pab_cons (pb_v 0 rfl) (pab_cons pb_int pab_nil)))) pab_nil))) (fun _ _ _ _ _ _ _ => rid))) pssb_nil) (pssb_cons (psb_if (ptb_cmp (op_eqD hx.room.units) o2_eq (nomark _) (pb_v 2 rfl) pb_int) (pssb_one (psb_ret (pb_tup (pab_cons pb_str (pab_cons (pb_call c_f__law_name hx.room (by decide) hx.tk (by rfl) (pab_cons (pb_v 0 rfl) pab_nil)) pab_nil))) (fun _ _ _ _ _ _ _ => rid))) pssb_nil) (pssb_cons (psb_set (i := 3) rfl nd rfl (by first | exact Or.inl rfl | exact Or.inr rfl) (pb_op op_addA o2_add pb_int (pb_call c_f__law_take hx.room (by decide) hx.tk (by rfl) (pab_cons (pb_v 0 rfl) (pab_cons pb_int pab_nil))))) (pssb_cons (psb_set (i := 4) rfl nd rfl (by first | exact Or.inl rfl | exact Or.inr rfl) (pb_ix ix_seq o2_ix (fun _ _ => rfl) (pb_lst (pab_cons pb_int (pab_cons pb_int (pab_cons pb_int pab_nil)))) (pb_call c_f__law_take hx.room (by decide) hx.tk (by rfl) (pab_cons (pb_v 0 rfl) (pab_cons pb_int pab_nil))))) (pssb_cons (by first | exact (psb_setO (i := 5) nd rfl (by first | exact Or.inl rfl | exact Or.inr rfl) (pb_lc (own := [("_law_axis", 6)]) rfl nd (pib_r1 (by rfl) t.z_range (pb_v 1 rfl)) (blkOk_by (N := ["_law_bag_here", "_law_axes", "_law_sort", "_law_speed", "_law_most", "_law_steps", "_law_axis"]) (sc := defScope (topS 42)) (by decide +kernel)) (gok_nm rfl) (by decide) tt_yes (fun _ _ _ _ _ => (pg_name (i := 6) nd rfl (by first | exact Or.inl rfl | exact Or.inr rfl))) (fun _ _ _ _ _ => pts_nil) (fun _ _ _ _ _ => (pb_op op_sub o2_sub (pb_call c_f__law_take hx.room (by decide) takesN0 (by rfl) (pab_cons (pb_v 0 rfl) (pab_cons (pb_op op_addA o2_add (pb_op op_mulX o2_mul pb_int (pb_v 4 rfl)) pb_int) pab_nil))) (pb_v 4 rfl))))) | exact (psb_setLcO (i := 5) (own := [("_law_axis", 6)]) rfl nd rfl rfl rfl (pib_r1 (by rfl) t.z_range (pb_v 1 rfl)) (blkOk_by (N := ["_law_bag_here", "_law_axes", "_law_sort", "_law_speed", "_law_most", "_law_steps", "_law_axis"]) (sc := defScope (topS 42)) (by decide +kernel)) (gok_nm rfl) (by decide) tt_yes (fun _ _ _ _ _ => (pg_name (i := 6) nd rfl (by first | exact Or.inl rfl | exact Or.inr rfl))) (fun _ _ _ _ _ => pts_nil) (fun _ _ _ _ _ => (pb_op op_sub o2_sub (pb_call c_f__law_take hx.room (by decide) takesN0 (by rfl) (pab_cons (pb_v 0 rfl) (pab_cons (pb_op op_addA o2_add (pb_op op_mulX o2_mul pb_int (pb_v 4 rfl)) pb_int) pab_nil))) (pb_v 4 rfl))))) (pssb_cons (psb_if (ptb_not (ptb_val (pb_c1 (cr_anyA rfl) o1_any (by rfl) t.z_any PyProof.Rows.boot_any (pb_vl 5 rfl)))) (pssb_one (psb_put (i := 5) rfl (pb_call c_f__law_take hx.room (by decide) hx.tk (by rfl) (pab_cons (pb_v 0 rfl) (pab_cons (pb_v 1 rfl) pab_nil))) pb_int)) pssb_nil) (pssb_one (psb_ret (pb_tup (pab_cons pb_str (pab_cons (pb_y1 call_tuple_of o1_tuple (by rfl) t.z_tuple PyProof.Rows.boot_tuple (pb_vl 5 rfl)) (pab_cons (pb_v 3 rfl) pab_nil)))) (fun _ _ _ _ _ _ _ => rid)))))))))))
theorem ok_f__law_text (t : Tx K mg C_Full C_GlideError C_Moving C_NoFraction C_NoItem C_NoLine C_NoMachine C_NoPlace C_NoRate C_NoTape C_NoText C_OffRails) (W : Here K mg "_law_text" (topS 53) ["_law_bag_here", "_law_axes"]) (c_f__law_take : CalB P w K mg base 1 "_law_take" .fz f__law_take) (c_f__law_words_put : CalB P w K mg base 3 "_law_words_put" .fz f__law_words_put) (c_f__law_signs_put : CalB P w K mg base 3 "_law_signs_put" .fz f__law_signs_put) (c_f__law_item_text : CalB P w K mg base 1 "_law_item_text" .fz f__law_item_text) (c_f__law_item : CalB P w K mg base 3 "_law_item" .fz f__law_item) : CalB P w K mg base 4 "_law_text" .fz f__law_text :=
  calB (lin' := []) W sc_f__law_text fun f cdv A outer s H E en hx => by
  have nd := sc_f__law_text.nd
  exact (pssb_cons (psb_set (i := 2) rfl nd rfl (by first | exact Or.inl rfl | exact Or.inr rfl) (pb_call c_f__law_take hx.room (by decide) hx.tk (by rfl) (pab_cons (pb_v 0 rfl) (pab_cons pb_int pab_nil)))) (pssb_cons (psb_set (i := 3) rfl nd rfl (by first | exact Or.inl rfl | exact Or.inr rfl) (pb_ix ix_seq o2_ix (fun _ _ => rfl) (pb_lst (pab_cons (pb_call c_f__law_take hx.room (by decide) hx.tk (by rfl) (pab_cons (pb_v 0 rfl) (pab_cons pb_int pab_nil))) (pab_cons pb_int (pab_cons pb_int (pab_cons (pb_call c_f__law_take hx.room (by decide) hx.tk (by rfl) (pab_cons (pb_v 0 rfl) (pab_cons pb_int pab_nil))) pab_nil))))) (pb_call c_f__law_take hx.room (by decide) hx.tk (by rfl) (pab_cons (pb_v 0 rfl) (pab_cons pb_int pab_nil))))) (pssb_cons (psb_if (ptb_cmp (op_eqD hx.room.units) o2_eq (nomark _) (pb_v 2 rfl) pb_int) (pssb_one (psb_set (i := 1) rfl nd rfl (by first | exact Or.inl rfl | exact Or.inr rfl) (pb_op op_sub o2_sub pb_int (pb_v 1 rfl)))) pssb_nil) (pssb_cons (psb_set (i := 4) rfl nd rfl (by first | exact Or.inl rfl | exact Or.inr rfl) (pb_join pb_str (pb_lc (own := [("_law_k", 5)]) rfl nd (pib_r1 (by rfl) t.z_range (pb_v 3 rfl)) (blkOk_by (N := ["_law_bag_here", "_law_axes", "_law_spoil", "_law_many", "_law_text_here", "_law_k"]) (sc := defScope (topS 53)) (by decide +kernel)) (gok_nm rfl) (by decide) tt_yes (fun _ _ _ _ _ => (pg_name (i := 5) nd rfl (by first | exact Or.inl rfl | exact Or.inr rfl))) (fun _ _ _ _ _ => pts_nil) (fun _ _ _ _ _ => (pb_call c_f__law_item_text hx.room (by decide) takesN0 (by rfl) (pab_cons (pb_call c_f__law_item hx.room (by decide) takesN0 (by rfl) (pab_cons (pb_v 0 rfl) (pab_cons (pb_v 1 rfl) pab_nil))) pab_nil)))))) (pssb_cons (psb_if (ptb_cmp op_inA o2_in (by with_unfolding_all rfl) (pb_v 2 rfl) (pb_lst (pab_cons pb_int (pab_cons pb_int (pab_cons pb_int pab_nil))))) (pssb_one (psb_set (i := 4) rfl nd rfl (by first | exact Or.inl rfl | exact Or.inr rfl) (pb_call c_f__law_words_put hx.room (by decide) hx.tk (by rfl) (pab_cons (pb_v 0 rfl) (pab_cons (pb_v 4 rfl) pab_nil))))) pssb_nil) (pssb_cons (psb_if (ptb_cmp op_inA o2_in (by with_unfolding_all rfl) (pb_v 2 rfl) (pb_lst (pab_cons pb_int (pab_cons pb_int (pab_cons pb_int pab_nil))))) (pssb_one (psb_set (i := 4) rfl nd rfl (by first | exact Or.inl rfl | exact Or.inr rfl) (pb_call c_f__law_signs_put hx.room (by decide) hx.tk (by rfl) (pab_cons (pb_v 0 rfl) (pab_cons (pb_v 4 rfl) pab_nil))))) pssb_nil) (pssb_one (psb_ret (pb_v 4 rfl) (fun _ _ _ _ _ _ _ => rid)))))))))
theorem ok_f__law_number_read (t : Tx K mg C_Full C_GlideError C_Moving C_NoFraction C_NoItem C_NoLine C_NoMachine C_NoPlace C_NoRate C_NoTape C_NoText C_OffRails) (W : Here K mg "_law_number_read" (topS 46) ["_law_word_here", "_law_low", "_law_high"])  : CalB P w K mg base 1 "_law_number_read" .fz f__law_number_read :=
  calB (lin' := []) W sc_f__law_number_read fun f cdv A outer s H E en hx => by
  have nd := sc_f__law_number_read.nd
  exact (pssb_cons (psb_set (i := 3) rfl nd rfl (by first | exact Or.inl rfl | exact Or.inr rfl) (pb_if (ptb_cmp (op_eqD hx.room.units) o2_eq (nomark _) (pb_slice sl_ts o3_ts (pb_v 0 rfl) pob_none (pob_some pb_int)) pb_str) (pb_slice sl_ts o3_ts (pb_v 0 rfl) (pob_some pb_int) pob_none) (pb_v 0 rfl))) (pssb_cons (psb_if (pwb_t (pwb_or (ptb_not (ptb_chain op_le o2_le op_le o2_le pb_int (pb_c1 call_len o1_len (by rfl) t.z_len PySem.boot_len (pb_v 3 rfl)) pb_int)) (pwb_or1 (ptb_val (pb_c1 (cr_anyA rfl) o1_any (by rfl) t.z_any PyProof.Rows.boot_any (pb_lc (own := [("_law_sign_here", 5)]) rfl nd (pib_str (pb_v 3 rfl)) (blkOk_by (N := ["_law_word_here", "_law_low", "_law_high", "_law_rest", "_law_number", "_law_sign_here"]) (sc := defScope (topS 46)) (by decide +kernel)) (gok_nm rfl) (by decide) tt_yes (fun _ _ _ _ _ => (pg_name (i := 5) nd rfl (by first | exact Or.inl rfl | exact Or.inr rfl))) (fun _ _ _ _ _ => pts_nil) (fun _ _ _ _ _ => (pb_cmp op_notInA o2_in (by with_unfolding_all rfl) (pb_v 5 rfl) pb_str)))))))) (pssb_one (psb_ret pb_non (fun _ _ _ _ _ _ _ => rid))) pssb_nil) (pssb_cons (psb_if (pwb_t (pwb_and (ptb_cmp (op_eqD hx.room.units) o2_eq (nomark _) (pb_ix ix_seq o2_ix (fun _ _ => rfl) (pb_v 3 rfl) pb_int) pb_str) (pwb_and1 (ptb_cmp (op_neD hx.room.units) o2_ne (nomark _) (pb_v 0 rfl) pb_str)))) (pssb_one (psb_ret pb_non (fun _ _ _ _ _ _ _ => rid))) pssb_nil) (pssb_cons (psb_set (i := 4) rfl nd rfl (by first | exact Or.inl rfl | exact Or.inr rfl) (pb_op op_mulX o2_mul (pb_y1 call_intA o1_int (by rfl) t.z_int PyProof.Rows.boot_int (pb_v 3 rfl)) (pb_op op_sub o2_sub pb_int (pb_op op_mulX o2_mul pb_int (pb_y1 call_intA o1_int (by rfl) t.z_int PyProof.Rows.boot_int (pb_cmp (op_eqD hx.room.units) o2_eq (nomark _) (pb_slice sl_ts o3_ts (pb_v 0 rfl) pob_none (pob_some pb_int)) pb_str)))))) (pssb_one (psb_ret (pb_if (ptb_chain op_le o2_le op_le o2_le (pb_v 1 rfl) (pb_v 4 rfl) (pb_v 2 rfl)) (pb_v 4 rfl) pb_non) (fun _ _ _ _ _ _ _ => rid)))))))
theorem ok_f__law_line_read (t : Tx K mg C_Full C_GlideError C_Moving C_NoFraction C_NoItem C_NoLine C_NoMachine C_NoPlace C_NoRate C_NoTape C_NoText C_OffRails) (W : Here K mg "_law_line_read" (topS 47) ["_law_words", "_law_axes"]) (c_f__law_number_read : CalB P w K mg base 1 "_law_number_read" .fz f__law_number_read) : CalB P w K mg base 2 "_law_line_read" .fz f__law_line_read :=
  calB (lin' := []) W sc_f__law_line_read fun f cdv A outer s H E en hx => by
  have nd := sc_f__law_line_read.nd
  exact (pssb_cons (psb_if (ptb_cmp (op_neD hx.room.units) o2_ne (nomark _) (pb_c1 call_len o1_len (by rfl) t.z_len PySem.boot_len (pb_v 0 rfl)) (pb_op op_addA o2_add (pb_v 1 rfl) pb_int)) (pssb_one (psb_ret pb_non (fun _ _ _ _ _ _ _ => rid))) pssb_nil) (pssb_cons (by first | exact (psb_setO (i := 2) nd rfl (by first | exact Or.inl rfl | exact Or.inr rfl) (pb_lc (own := [("_law_word_here", 4)]) rfl nd (pib_list (pb_fz (pb_slice sl_list o3_list (pb_v 0 rfl) (pob_some pb_int) (pob_some (pb_un un_neg o1_neg pb_int))))) (blkOk_by (N := ["_law_words", "_law_axes", "_law_steps", "_law_speed", "_law_word_here"]) (sc := defScope (topS 47)) (by decide +kernel)) (gok_nm rfl) (by decide) tt_yes (fun _ _ _ _ _ => (pg_name (i := 4) nd rfl (by first | exact Or.inl rfl | exact Or.inr rfl))) (fun _ _ _ _ _ => pts_nil) (fun _ _ _ _ _ => (pb_call c_f__law_number_read hx.room (by decide) takesN0 (by rfl) (pab_cons (pb_v 4 rfl) (pab_cons (pb_un un_neg o1_neg pb_int) (pab_cons pb_int pab_nil))))))) | exact (psb_setLcO (i := 2) (own := [("_law_word_here", 4)]) rfl nd rfl rfl rfl (pib_list (pb_fz (pb_slice sl_list o3_list (pb_v 0 rfl) (pob_some pb_int) (pob_some (pb_un un_neg o1_neg pb_int))))) (blkOk_by (N := ["_law_words", "_law_axes", "_law_steps", "_law_speed", "_law_word_here"]) (sc := defScope (topS 47)) (by decide +kernel)) (gok_nm rfl) (by decide) tt_yes (fun _ _ _ _ _ => (pg_name (i := 4) nd rfl (by first | exact Or.inl rfl | exact Or.inr rfl))) (fun _ _ _ _ _ => pts_nil) (fun _ _ _ _ _ => (pb_call c_f__law_number_read hx.room (by decide) takesN0 (by rfl) (pab_cons (pb_v 4 rfl) (pab_cons (pb_un un_neg o1_neg pb_int) (pab_cons pb_int pab_nil))))))) (pssb_cons (psb_set (i := 3) rfl nd rfl (by first | exact Or.inl rfl | exact Or.inr rfl) (pb_call c_f__law_number_read hx.room (by decide) hx.tk (by rfl) (pab_cons (pb_ix ix_seq o2_ix (fun _ _ => rfl) (pb_v 0 rfl) (pb_un un_neg o1_neg pb_int)) (pab_cons pb_int (pab_cons pb_int pab_nil))))) (pssb_cons (psb_if (pwb_t (pwb_or (ptb_cmp op_inA o2_in (by with_unfolding_all rfl) pb_non (pb_vl 2 rfl)) (pwb_or (ptb_cmp op_isN o2_isN (nomark _) (pb_v 3 rfl) pb_non) (pwb_or1 (ptb_not (ptb_val (pb_c1 (cr_anyA rfl) o1_any (by rfl) t.z_any PyProof.Rows.boot_any (pb_vl 2 rfl)))))))) (pssb_one (psb_ret pb_non (fun _ _ _ _ _ _ _ => rid))) pssb_nil) (pssb_one (psb_ret (pb_tup (pab_cons pb_str (pab_cons (pb_y1 call_tuple_of o1_tuple (by rfl) t.z_tuple PyProof.Rows.boot_tuple (pb_vl 2 rfl)) (pab_cons (pb_v 3 rfl) pab_nil)))) (fun _ _ _ _ _ _ _ => rid)))))))
theorem ok_f__law_item_read (t : Tx K mg C_Full C_GlideError C_Moving C_NoFraction C_NoItem C_NoLine C_NoMachine C_NoPlace C_NoRate C_NoTape C_NoText C_OffRails) (W : Here K mg "_law_item_read" (topS 48) ["_law_text_here", "_law_axes"]) (c_f__law_line_read : CalB P w K mg base 2 "_law_line_read" .fz f__law_line_read) (c_f__law_number_read : CalB P w K mg base 1 "_law_number_read" .fz f__law_number_read) : CalB P w K mg base 3 "_law_item_read" .fz f__law_item_read :=
  calB (lin' := []) W sc_f__law_item_read fun f cdv A outer s H E en hx => by
  have nd := sc_f__law_item_read.nd
  exact (pssb_cons (psb_setO (i := 2) nd rfl (by first | exact Or.inl rfl | exact Or.inr rfl) (pb_split (pb_v 0 rfl) pb_str)) (pssb_cons (psb_if (ptb_cmp (op_eqD hx.room.units) o2_eq (nomark _) (pb_ix ix_seq o2_ix (fun _ _ => rfl) (pb_vl 2 rfl) pb_int) pb_str) (pssb_fz (lin := [2]) (lin1 := []) rfl (pssb_one (psb_ret (pb_call c_f__law_line_read hx.room (by decide) hx.tk (by rfl) (pab_cons (pb_v 2 rfl) (pab_cons (pb_v 1 rfl) pab_nil))) (fun _ _ _ _ _ _ _ => rid)))) pssb_nil) (pssb_cons (psb_if (ptb_cmp (op_neD hx.room.units) o2_ne (nomark _) (pb_c1 call_len o1_len (by rfl) t.z_len PySem.boot_len (pb_vl 2 rfl)) pb_int) (pssb_one (psb_ret pb_non (fun _ _ _ _ _ _ _ => rid))) pssb_nil) (pssb_cons (psb_if (ptb_cmp (op_eqD hx.room.units) o2_eq (nomark _) (pb_ix ix_seq o2_ix (fun _ _ => rfl) (pb_vl 2 rfl) pb_int) pb_str) (pssb_cons (psb_set (i := 4) rfl nd rfl (by first | exact Or.inl rfl | exact Or.inr rfl) (pb_call c_f__law_number_read hx.room (by decide) hx.tk (by rfl) (pab_cons (pb_ix ix_seq o2_ix (fun _ _ => rfl) (pb_vl 2 rfl) pb_int) (pab_cons pb_int (pab_cons pb_int pab_nil))))) (pssb_one (psb_ret (pb_if (ptb_cmp op_isN o2_isN (nomark _) (pb_v 4 rfl) pb_non) pb_non (pb_tup (pab_cons pb_str (pab_cons (pb_v 4 rfl) pab_nil)))) (fun _ _ _ _ _ _ _ => rid)))) pssb_nil) (pssb_cons (psb_if (ptb_cmp (op_eqD hx.room.units) o2_eq (nomark _) (pb_ix ix_seq o2_ix (fun _ _ => rfl) (pb_vl 2 rfl) pb_int) pb_str) (pssb_one (psb_ret (pb_if (ptb_cmp op_inA o2_in (by with_unfolding_all rfl) (pb_ix ix_seq o2_ix (fun _ _ => rfl) (pb_vl 2 rfl) pb_int) (pb_lst (pab_cons pb_str (pab_cons pb_str pab_nil)))) (pb_tup (pab_cons pb_str (pab_cons (pb_ix ix_seq o2_ix (fun _ _ => rfl) (pb_vl 2 rfl) pb_int) pab_nil))) pb_non) (fun _ _ _ _ _ _ _ => rid))) pssb_nil) (pssb_cons (psb_set (i := 3) rfl nd rfl (by first | exact Or.inl rfl | exact Or.inr rfl) (pb_c1 call_len o1_len (by rfl) t.z_len PySem.boot_len (pb_lc (own := [("_law_sign_here", 5)]) rfl nd (pib_str (pb_ix ix_seq o2_ix (fun _ _ => rfl) (pb_vl 2 rfl) pb_int)) (blkOk_by (N := ["_law_text_here", "_law_axes", "_law_words", "_law_letters", "_law_number", "_law_sign_here"]) (sc := defScope (topS 48)) (by decide +kernel)) (gok_nm rfl) (by decide) (fun _ _ _ q => q) (fun _ _ _ _ _ => (pg_name (i := 5) nd rfl (by first | exact Or.inl rfl | exact Or.inr rfl))) (fun _ _ _ _ _ => pts_one (ptb_chain op_le_str o2_leS op_le_str o2_leS pb_str (pb_v 5 rfl) pb_str)) (fun _ _ _ _ _ => (pb_v 5 rfl))))) (pssb_cons (psb_if (pwb_t (pwb_and (ptb_cmp (op_eqD hx.room.units) o2_eq (nomark _) (pb_ix ix_seq o2_ix (fun _ _ => rfl) (pb_vl 2 rfl) pb_int) pb_str) (pwb_and (ptb_chain op_le o2_le op_le o2_le pb_int (pb_c1 call_len o1_len (by rfl) t.z_len PySem.boot_len (pb_ix ix_seq o2_ix (fun _ _ => rfl) (pb_vl 2 rfl) pb_int)) pb_int) (pwb_and1 (ptb_cmp (op_eqD hx.room.units) o2_eq (nomark _) (pb_v 3 rfl) (pb_c1 call_len o1_len (by rfl) t.z_len PySem.boot_len (pb_ix ix_seq o2_ix (fun _ _ => rfl) (pb_vl 2 rfl) pb_int))))))) (pssb_one (psb_ret (pb_tup (pab_cons pb_str (pab_cons (pb_ix ix_seq o2_ix (fun _ _ => rfl) (pb_vl 2 rfl) pb_int) pab_nil))) (fun _ _ _ _ _ _ _ => rid))) pssb_nil) (pssb_one (psb_ret pb_non (fun _ _ _ _ _ _ _ => rid))))))))))
theorem ok_f__law_due (t : Tx K mg C_Full C_GlideError C_Moving C_NoFraction C_NoItem C_NoLine C_NoMachine C_NoPlace C_NoRate C_NoTape C_NoText C_OffRails) (W : Here K mg "_law_due" (topS 49) ["_law_text_here", "_law_axes"]) (c_f__law_item_read : CalB P w K mg base 3 "_law_item_read" .fz f__law_item_read) : CalB P w K mg base 4 "_law_due" .fz f__law_due :=
  calB (lin' := []) W sc_f__law_due fun f cdv A outer s H E en hx => by
  have nd := sc_f__law_due.nd
  exact (pssb_cons (psb_if (ptb_not (ptb_val (pb_isi (by rfl) t.z_isinstance (by rfl) t.z_str PyProof.Rows.boot_str (by decide) (pb_v 0 rfl)))) (pssb_one (psb_ret pb_int (fun _ _ _ _ _ _ _ => rid))) pssb_nil) (pssb_cons (psb_setO (i := 2) nd rfl (by first | exact Or.inl rfl | exact Or.inr rfl) (pb_lst pab_nil)) (pssb_cons (psb_if (ptb_cmp (op_eqD hx.room.units) o2_eq (nomark _) (pb_v 0 rfl) pb_str) (pssb_one (psb_ret (pb_tup pab_nil) (fun _ _ _ _ _ _ _ => rid))) pssb_nil) (pssb_cons (psb_for hx.po rfl (pib_list (pb_fz (pb_split (pb_v 0 rfl) pb_str))) (gok_nm rfl) (pg_name (i := 3) nd rfl (by first | exact Or.inl rfl | exact Or.inr rfl)) (pssb_cons (psb_set (i := 4) rfl nd rfl (by first | exact Or.inl rfl | exact Or.inr rfl) (pb_call c_f__law_item_read hx.room (by decide) hx.tk (by rfl) (pab_cons (pb_v 3 rfl) (pab_cons (pb_v 1 rfl) pab_nil)))) (pssb_cons (psb_if (pwb_t (pwb_or (ptb_cmp op_isN o2_isN (nomark _) (pb_v 4 rfl) pb_non) (pwb_or1 (ptb_cmp (op_eqD hx.room.units) o2_eq (nomark _) (pb_c1 call_len o1_len (by rfl) t.z_len PySem.boot_len (pb_vl 2 rfl)) pb_int)))) (pssb_one (psb_ret (pb_c1 call_len o1_len (by rfl) t.z_len PySem.boot_len (pb_vl 2 rfl)) (fun _ _ _ _ _ _ _ => rid))) pssb_nil) (pssb_one (psb_app (i := 2) rfl (pb_v 4 rfl)))))) (pssb_one (psb_ret (pb_y1 call_tuple_of o1_tuple (by rfl) t.z_tuple PyProof.Rows.boot_tuple (pb_vl 2 rfl)) (fun _ _ _ _ _ _ _ => rid)))))))
theorem ok_f_is_whole (t : Tx K mg C_Full C_GlideError C_Moving C_NoFraction C_NoItem C_NoLine C_NoMachine C_NoPlace C_NoRate C_NoTape C_NoText C_OffRails) (W : Here K mg "is_whole" (topS 14) ["thing"])  : CalB P w K mg base 1 "is_whole" .fz f_is_whole :=
  calB (lin' := []) W sc_f_is_whole fun f cdv A outer s H E en hx => by
  have nd := sc_f_is_whole.nd
  exact (pssb_one (psb_ret (pb_and (pb_isi (by rfl) t.z_isinstance (by rfl) t.z_int PyProof.Rows.boot_int (by decide) (pb_v 0 rfl)) (pb_one (pb_not (pb_isi (by rfl) t.z_isinstance (by rfl) t.z_bool PyProof.Rows.boot_bool (by decide) (pb_v 0 rfl))))) (fun _ _ _ _ _ _ _ => rid)))
theorem ok_f_is_within (t : Tx K mg C_Full C_GlideError C_Moving C_NoFraction C_NoItem C_NoLine C_NoMachine C_NoPlace C_NoRate C_NoTape C_NoText C_OffRails) (W : Here K mg "is_within" (topS 16) ["thing", "least", "most"]) (c_f_is_whole : CalB P w K mg base 1 "is_whole" .fz f_is_whole) : CalB P w K mg base 2 "is_within" .fz f_is_within :=
  calB (lin' := []) W sc_f_is_within fun f cdv A outer s H E en hx => by
  have nd := sc_f_is_within.nd
  exact (pssb_one (psb_ret (pb_and (pb_call c_f_is_whole hx.room (by decide) hx.tk (by rfl) (pab_cons (pb_v 0 rfl) pab_nil)) (pb_one (pb_chain op_le o2_le op_le o2_le (pb_v 1 rfl) (pb_v 0 rfl) (pb_v 2 rfl)))) (fun _ _ _ _ _ _ _ => rid)))
theorem ok_f_is_name (t : Tx K mg C_Full C_GlideError C_Moving C_NoFraction C_NoItem C_NoLine C_NoMachine C_NoPlace C_NoRate C_NoTape C_NoText C_OffRails) (W : Here K mg "is_name" (topS 26) ["thing"])  : CalB P w K mg base 1 "is_name" .fz f_is_name :=
  calB (lin' := []) W sc_f_is_name fun f cdv A outer s H E en hx => by
  have nd := sc_f_is_name.nd
  exact (pssb_cons (psb_if (pwb_t (pwb_or (ptb_not (ptb_val (pb_isi (by rfl) t.z_isinstance (by rfl) t.z_str PyProof.Rows.boot_str (by decide) (pb_v 0 rfl)))) (pwb_or1 (ptb_not (ptb_chain op_le o2_le op_le o2_le pb_int (pb_c1 call_len o1_len (by rfl) t.z_len PySem.boot_len (pb_v 0 rfl)) (pb_gt (by rfl) t.g_MOST_LETTERS)))))) (pssb_one (psb_ret pb_bl (fun _ _ _ _ _ _ _ => rid))) pssb_nil) (pssb_one (psb_ret (pb_c1 (cr_allA rfl) o1_all (by rfl) t.z_all PyProof.Rows.boot_all (pb_lc (own := [("sign", 1)]) rfl nd (pib_str (pb_v 0 rfl)) (blkOk_by (N := ["thing", "sign"]) (sc := defScope (topS 26)) (by decide +kernel)) (gok_nm rfl) (by decide) tt_yes (fun _ _ _ _ _ => (pg_name (i := 1) nd rfl (by first | exact Or.inl rfl | exact Or.inr rfl))) (fun _ _ _ _ _ => pts_nil) (fun _ _ _ _ _ => (pb_cmp op_inA o2_in (by with_unfolding_all rfl) (pb_v 1 rfl) (pb_gt (by rfl) t.g_SMALL))))) (fun _ _ _ _ _ _ _ => rid))))
theorem ok_f_are_steps (t : Tx K mg C_Full C_GlideError C_Moving C_NoFraction C_NoItem C_NoLine C_NoMachine C_NoPlace C_NoRate C_NoTape C_NoText C_OffRails) (W : Here K mg "are_steps" (topS 24) ["machine", "thing"]) (c_f_is_within : CalB P w K mg base 2 "is_within" .fz f_is_within) : CalB P w K mg base 3 "are_steps" .fz f_are_steps :=
  calB (lin' := []) W sc_f_are_steps fun f cdv A outer s H E en hx => by
  have nd := sc_f_are_steps.nd
  exact (pssb_cons (psb_if (pwb_t (pwb_or (ptb_not (ptb_val (pb_isi (by rfl) t.z_isinstance (by rfl) t.z_tuple PyProof.Rows.boot_tuple (by decide) (pb_v 1 rfl)))) (pwb_or1 (ptb_cmp (op_neD hx.room.units) o2_ne (nomark _) (pb_c1 call_len o1_len (by rfl) t.z_len PySem.boot_len (pb_v 1 rfl)) (pb_c1 call_len o1_len (by rfl) t.z_len PySem.boot_len (pb_ix ix_seq o2_ix (fun _ _ => rfl) (pb_v 0 rfl) pb_int)))))) (pssb_one (psb_ret pb_bl (fun _ _ _ _ _ _ _ => rid))) pssb_nil) (pssb_one (psb_ret (pb_and (pb_c1 (cr_allA rfl) o1_all (by rfl) t.z_all PyProof.Rows.boot_all (pb_lc (own := [("step", 2)]) rfl nd (pib_tup (pb_v 1 rfl)) (blkOk_by (N := ["machine", "thing", "step"]) (sc := defScope (topS 24)) (by decide +kernel)) (gok_nm rfl) (by decide) tt_yes (fun _ _ _ _ _ => (pg_name (i := 2) nd rfl (by first | exact Or.inl rfl | exact Or.inr rfl))) (fun _ _ _ _ _ => pts_nil) (fun _ _ _ _ _ => (pb_call c_f_is_within hx.room (by decide) takesN0 (by rfl) (pab_cons (pb_v 2 rfl) (pab_cons (pb_un un_neg o1_neg (pb_gt (by rfl) t.g_MOST_STEPS)) (pab_cons (pb_gt (by rfl) t.g_MOST_STEPS) pab_nil))))))) (pb_one (pb_c1 (cr_anyA rfl) o1_any (by rfl) t.z_any PyProof.Rows.boot_any (pb_lc (own := [("step", 2)]) rfl nd (pib_tup (pb_v 1 rfl)) (blkOk_by (N := ["machine", "thing", "step"]) (sc := defScope (topS 24)) (by decide +kernel)) (gok_nm rfl) (by decide) tt_yes (fun _ _ _ _ _ => (pg_name (i := 2) nd rfl (by first | exact Or.inl rfl | exact Or.inr rfl))) (fun _ _ _ _ _ => pts_nil) (fun _ _ _ _ _ => (pb_cmp (op_neD hx.room.units) o2_ne (nomark _) (pb_v 2 rfl) pb_int)))))) (fun _ _ _ _ _ _ _ => rid))))
theorem ok_f_is_speed (t : Tx K mg C_Full C_GlideError C_Moving C_NoFraction C_NoItem C_NoLine C_NoMachine C_NoPlace C_NoRate C_NoTape C_NoText C_OffRails) (W : Here K mg "is_speed" (topS 25) ["thing"]) (c_f_is_within : CalB P w K mg base 2 "is_within" .fz f_is_within) : CalB P w K mg base 3 "is_speed" .fz f_is_speed :=
  calB (lin' := []) W sc_f_is_speed fun f cdv A outer s H E en hx => by
  have nd := sc_f_is_speed.nd
  exact (pssb_one (psb_ret (pb_call c_f_is_within hx.room (by decide) hx.tk (by rfl) (pab_cons (pb_v 0 rfl) (pab_cons pb_int (pab_cons (pb_gt (by rfl) t.g_MOST_SPEED) pab_nil)))) (fun _ _ _ _ _ _ _ => rid)))
theorem ok_f_is_item (t : Tx K mg C_Full C_GlideError C_Moving C_NoFraction C_NoItem C_NoLine C_NoMachine C_NoPlace C_NoRate C_NoTape C_NoText C_OffRails) (W : Here K mg "is_item" (topS 27) ["machine", "thing"]) (c_f_is_within : CalB P w K mg base 2 "is_within" .fz f_is_within) (c_f_is_name : CalB P w K mg base 1 "is_name" .fz f_is_name) (c_f_are_steps : CalB P w K mg base 3 "are_steps" .fz f_are_steps) (c_f_is_speed : CalB P w K mg base 3 "is_speed" .fz f_is_speed) : CalB P w K mg base 4 "is_item" .fz f_is_item :=
  calB (lin' := []) W sc_f_is_item fun f cdv A outer s H E en hx => by
  have nd := sc_f_is_item.nd
  exact (pssb_cons (psb_if (pwb_t (pwb_or (ptb_not (ptb_val (pb_isi (by rfl) t.z_isinstance (by rfl) t.z_tuple PyProof.Rows.boot_tuple (by decide) (pb_v 1 rfl)))) (pwb_or (ptb_not (ptb_chain op_le o2_le op_le o2_le pb_int (pb_c1 call_len o1_len (by rfl) t.z_len PySem.boot_len (pb_v 1 rfl)) pb_int)) (pwb_or1 (ptb_not (ptb_val (pb_isi (by rfl) t.z_isinstance (by rfl) t.z_str PyProof.Rows.boot_str (by decide) (pb_ix ix_seq o2_ix (fun _ _ => rfl) (pb_v 1 rfl) pb_int)))))))) (pssb_one (psb_ret pb_bl (fun _ _ _ _ _ _ _ => rid))) pssb_nil) (pssb_cons (psb_if (ptb_cmp (op_eqD hx.room.units) o2_eq (nomark _) (pb_ix ix_seq o2_ix (fun _ _ => rfl) (pb_v 1 rfl) pb_int) pb_str) (pssb_one (psb_ret (pb_and (pb_cmp (op_eqD hx.room.units) o2_eq (nomark _) (pb_c1 call_len o1_len (by rfl) t.z_len PySem.boot_len (pb_v 1 rfl)) pb_int) (pb_and (pb_call c_f_are_steps hx.room (by decide) hx.tk (by rfl) (pab_cons (pb_v 0 rfl) (pab_cons (pb_ix ix_seq o2_ix (fun _ _ => rfl) (pb_v 1 rfl) pb_int) pab_nil))) (pb_one (pb_call c_f_is_speed hx.room (by decide) hx.tk (by rfl) (pab_cons (pb_ix ix_seq o2_ix (fun _ _ => rfl) (pb_v 1 rfl) pb_int) pab_nil))))) (fun _ _ _ _ _ _ _ => rid))) pssb_nil) (pssb_cons (psb_if (ptb_cmp (op_eqD hx.room.units) o2_eq (nomark _) (pb_c1 call_len o1_len (by rfl) t.z_len PySem.boot_len (pb_v 1 rfl)) pb_int) (pssb_one (psb_ret pb_bl (fun _ _ _ _ _ _ _ => rid))) pssb_nil) (pssb_cons (psb_if (ptb_cmp (op_eqD hx.room.units) o2_eq (nomark _) (pb_ix ix_seq o2_ix (fun _ _ => rfl) (pb_v 1 rfl) pb_int) pb_str) (pssb_one (psb_ret (pb_call c_f_is_within hx.room (by decide) hx.tk (by rfl) (pab_cons (pb_ix ix_seq o2_ix (fun _ _ => rfl) (pb_v 1 rfl) pb_int) (pab_cons pb_int (pab_cons (pb_gt (by rfl) t.g_MOST_WAIT) pab_nil)))) (fun _ _ _ _ _ _ _ => rid))) pssb_nil) (pssb_cons (psb_if (ptb_cmp (op_eqD hx.room.units) o2_eq (nomark _) (pb_ix ix_seq o2_ix (fun _ _ => rfl) (pb_v 1 rfl) pb_int) pb_str) (pssb_one (psb_ret (pb_and (pb_isi (by rfl) t.z_isinstance (by rfl) t.z_str PyProof.Rows.boot_str (by decide) (pb_ix ix_seq o2_ix (fun _ _ => rfl) (pb_v 1 rfl) pb_int)) (pb_one (pb_cmp op_inA o2_in (by with_unfolding_all rfl) (pb_ix ix_seq o2_ix (fun _ _ => rfl) (pb_v 1 rfl) pb_int) (pb_gt (by rfl) t.g_SIDES)))) (fun _ _ _ _ _ _ _ => rid))) pssb_nil) (pssb_one (psb_ret (pb_and (pb_cmp (op_eqD hx.room.units) o2_eq (nomark _) (pb_ix ix_seq o2_ix (fun _ _ => rfl) (pb_v 1 rfl) pb_int) pb_str) (pb_one (pb_call c_f_is_name hx.room (by decide) hx.tk (by rfl) (pab_cons (pb_ix ix_seq o2_ix (fun _ _ => rfl) (pb_v 1 rfl) pb_int) pab_nil)))) (fun _ _ _ _ _ _ _ => rid))))))))
theorem ok_f_are_figures (t : Tx K mg C_Full C_GlideError C_Moving C_NoFraction C_NoItem C_NoLine C_NoMachine C_NoPlace C_NoRate C_NoTape C_NoText C_OffRails) (W : Here K mg "are_figures" (topS 32) ["text"])  : CalB P w K mg base 1 "are_figures" .fz f_are_figures :=
  calB (lin' := []) W sc_f_are_figures fun f cdv A outer s H E en hx => by
  have nd := sc_f_are_figures.nd
  exact (pssb_cons (psb_if (pwb_t (pwb_or (ptb_not (ptb_chain op_le o2_le op_le o2_le pb_int (pb_c1 call_len o1_len (by rfl) t.z_len PySem.boot_len (pb_v 0 rfl)) (pb_gt (by rfl) t.g_MOST_FIGURES))) (pwb_or1 (ptb_val (pb_c1 (cr_anyA rfl) o1_any (by rfl) t.z_any PyProof.Rows.boot_any (pb_lc (own := [("sign", 1)]) rfl nd (pib_str (pb_v 0 rfl)) (blkOk_by (N := ["text", "sign"]) (sc := defScope (topS 32)) (by decide +kernel)) (gok_nm rfl) (by decide) tt_yes (fun _ _ _ _ _ => (pg_name (i := 1) nd rfl (by first | exact Or.inl rfl | exact Or.inr rfl))) (fun _ _ _ _ _ => pts_nil) (fun _ _ _ _ _ => (pb_cmp op_notInA o2_in (by with_unfolding_all rfl) (pb_v 1 rfl) (pb_gt (by rfl) t.g_FIGURES))))))))) (pssb_one (psb_ret pb_bl (fun _ _ _ _ _ _ _ => rid))) pssb_nil) (pssb_one (psb_ret (pb_or (pb_cmp (op_neD hx.room.units) o2_ne (nomark _) (pb_ix ix_seq o2_ix (fun _ _ => rfl) (pb_v 0 rfl) pb_int) pb_str) (pb_one (pb_cmp (op_eqD hx.room.units) o2_eq (nomark _) (pb_v 0 rfl) pb_str))) (fun _ _ _ _ _ _ _ => rid))))
theorem ok_f_number_of (t : Tx K mg C_Full C_GlideError C_Moving C_NoFraction C_NoItem C_NoLine C_NoMachine C_NoPlace C_NoRate C_NoTape C_NoText C_OffRails) (W : Here K mg "number_of" (topS 33) ["text"]) (c_f_are_figures : CalB P w K mg base 1 "are_figures" .fz f_are_figures) : CalB P w K mg base 2 "number_of" .fz f_number_of :=
  calB (lin' := []) W sc_f_number_of fun f cdv A outer s H E en hx => by
  have nd := sc_f_number_of.nd
  exact (pssb_cons (psb_if (pwb_t (pwb_and (ptb_cmp (op_eqD hx.room.units) o2_eq (nomark _) (pb_slice sl_ts o3_ts (pb_v 0 rfl) pob_none (pob_some pb_int)) pb_str) (pwb_and (ptb_cmp (op_neD hx.room.units) o2_ne (nomark _) (pb_v 0 rfl) pb_str) (pwb_and1 (ptb_val (pb_call c_f_are_figures hx.room (by decide) hx.tk (by rfl) (pab_cons (pb_slice sl_ts o3_ts (pb_v 0 rfl) (pob_some pb_int) pob_none) pab_nil))))))) (pssb_one (psb_ret (pb_un un_neg o1_neg (pb_y1 call_intA o1_int (by rfl) t.z_int PyProof.Rows.boot_int (pb_slice sl_ts o3_ts (pb_v 0 rfl) (pob_some pb_int) pob_none))) (fun _ _ _ _ _ _ _ => rid))) pssb_nil) (pssb_cons (psb_if (ptb_val (pb_call c_f_are_figures hx.room (by decide) hx.tk (by rfl) (pab_cons (pb_v 0 rfl) pab_nil))) (pssb_one (psb_ret (pb_y1 call_intA o1_int (by rfl) t.z_int PyProof.Rows.boot_int (pb_v 0 rfl)) (fun _ _ _ _ _ _ _ => rid))) pssb_nil) (pssb_one (psb_ret pb_non (fun _ _ _ _ _ _ _ => rid)))))
theorem ok_f_item_of (t : Tx K mg C_Full C_GlideError C_Moving C_NoFraction C_NoItem C_NoLine C_NoMachine C_NoPlace C_NoRate C_NoTape C_NoText C_OffRails) (W : Here K mg "item_of" (topS 34) ["machine", "text"]) (c_f_is_item : CalB P w K mg base 4 "is_item" .fz f_is_item) (c_f_number_of : CalB P w K mg base 2 "number_of" .fz f_number_of) : CalB P w K mg base 5 "item_of" .fz f_item_of :=
  calB (lin' := []) W sc_f_item_of fun f cdv A outer s H E en hx => by
  have nd := sc_f_item_of.nd
  exact (pssb_cons (psb_setO (i := 2) nd rfl (by first | exact Or.inl rfl | exact Or.inr rfl) (pb_split (pb_v 1 rfl) pb_str)) (pssb_cons (psb_set (i := 3) rfl nd rfl (by first | exact Or.inl rfl | exact Or.inr rfl) pb_non) (pssb_cons (psb_if (pwb_t (pwb_and (ptb_cmp (op_eqD hx.room.units) o2_eq (nomark _) (pb_ix ix_seq o2_ix (fun _ _ => rfl) (pb_vl 2 rfl) pb_int) pb_str) (pwb_and1 (ptb_cmp op_gt o2_gt (nomark _) (pb_c1 call_len o1_len (by rfl) t.z_len PySem.boot_len (pb_vl 2 rfl)) pb_int)))) (pssb_cons (by first | exact (psb_setO (i := 4) nd rfl (by first | exact Or.inl rfl | exact Or.inr rfl) (pb_lc (own := [("word", 5)]) rfl nd (pib_list (pb_fz (pb_slice sl_list o3_list (pb_vl 2 rfl) (pob_some pb_int) pob_none))) (blkOk_by (N := ["machine", "text", "words", "found", "numbers", "word"]) (sc := defScope (topS 34)) (by decide +kernel)) (gok_nm rfl) (by decide) tt_yes (fun _ _ _ _ _ => (pg_name (i := 5) nd rfl (by first | exact Or.inl rfl | exact Or.inr rfl))) (fun _ _ _ _ _ => pts_nil) (fun _ _ _ _ _ => (pb_call c_f_number_of hx.room (by decide) takesN0 (by rfl) (pab_cons (pb_v 5 rfl) pab_nil))))) | exact (psb_setLcO (i := 4) (own := [("word", 5)]) rfl nd rfl rfl rfl (pib_list (pb_fz (pb_slice sl_list o3_list (pb_vl 2 rfl) (pob_some pb_int) pob_none))) (blkOk_by (N := ["machine", "text", "words", "found", "numbers", "word"]) (sc := defScope (topS 34)) (by decide +kernel)) (gok_nm rfl) (by decide) tt_yes (fun _ _ _ _ _ => (pg_name (i := 5) nd rfl (by first | exact Or.inl rfl | exact Or.inr rfl))) (fun _ _ _ _ _ => pts_nil) (fun _ _ _ _ _ => (pb_call c_f_number_of hx.room (by decide) takesN0 (by rfl) (pab_cons (pb_v 5 rfl) pab_nil))))) (pssb_cons (psb_set (i := 3) rfl nd rfl (by first | exact Or.inl rfl | exact Or.inr rfl) (pb_tup (pab_cons pb_str (pab_cons (pb_y1 call_tuple_of o1_tuple (by rfl) t.z_tuple PyProof.Rows.boot_tuple (pb_slice sl_list o3_list (pb_vl 4 rfl) pob_none (pob_some (pb_un un_neg o1_neg pb_int)))) (pab_cons (pb_ix ix_seq o2_ix (fun _ _ => rfl) (pb_vl 4 rfl) (pb_un un_neg o1_neg pb_int)) pab_nil))))) (pssb_fz (lin := [4, 2]) (lin1 := [2]) rfl pssb_nil))) (pssb_one (psb_if (pwb_t (pwb_and (ptb_cmp (op_eqD hx.room.units) o2_eq (nomark _) (pb_ix ix_seq o2_ix (fun _ _ => rfl) (pb_vl 2 rfl) pb_int) pb_str) (pwb_and1 (ptb_cmp (op_eqD hx.room.units) o2_eq (nomark _) (pb_c1 call_len o1_len (by rfl) t.z_len PySem.boot_len (pb_vl 2 rfl)) pb_int)))) (pssb_one (psb_set (i := 3) rfl nd rfl (by first | exact Or.inl rfl | exact Or.inr rfl) (pb_tup (pab_cons pb_str (pab_cons (pb_call c_f_number_of hx.room (by decide) hx.tk (by rfl) (pab_cons (pb_ix ix_seq o2_ix (fun _ _ => rfl) (pb_vl 2 rfl) pb_int) pab_nil)) pab_nil))))) (pssb_one (psb_if (pwb_t (pwb_and (ptb_cmp op_inA o2_in (by with_unfolding_all rfl) (pb_ix ix_seq o2_ix (fun _ _ => rfl) (pb_vl 2 rfl) pb_int) (pb_tup (pab_cons pb_str (pab_cons pb_str pab_nil)))) (pwb_and1 (ptb_cmp (op_eqD hx.room.units) o2_eq (nomark _) (pb_c1 call_len o1_len (by rfl) t.z_len PySem.boot_len (pb_vl 2 rfl)) pb_int)))) (pssb_one (psb_set (i := 3) rfl nd rfl (by first | exact Or.inl rfl | exact Or.inr rfl) (pb_tup (pab_cons (pb_ix ix_seq o2_ix (fun _ _ => rfl) (pb_vl 2 rfl) pb_int) (pab_cons (pb_ix ix_seq o2_ix (fun _ _ => rfl) (pb_vl 2 rfl) pb_int) pab_nil))))) pssb_nil))))) (pssb_one (psb_ret (pb_if (ptb_val (pb_call c_f_is_item hx.room (by decide) hx.tk (by rfl) (pab_cons (pb_v 0 rfl) (pab_cons (pb_v 3 rfl) pab_nil)))) (pb_v 3 rfl) pb_non) (fun _ _ _ _ _ _ _ => rid))))))
theorem ok_f_read_items (t : Tx K mg C_Full C_GlideError C_Moving C_NoFraction C_NoItem C_NoLine C_NoMachine C_NoPlace C_NoRate C_NoTape C_NoText C_OffRails) (W : Here K mg "read_items" (topS 35) ["machine", "text"]) (c_f_item_of : CalB P w K mg base 5 "item_of" .fz f_item_of) (ox_NoText : OexB P w K mg base "NoText" C_NoText (["at"].map Str.ofString)) : CalB P w K mg base 6 "read_items" .fz f_read_items :=
  calB (lin' := []) W sc_f_read_items fun f cdv A outer s H E en hx => by
  have nd := sc_f_read_items.nd
  exact (pssb_cons (psb_if (ptb_not (ptb_val (pb_isi (by rfl) t.z_isinstance (by rfl) t.z_str PyProof.Rows.boot_str (by decide) (pb_v 1 rfl)))) (pssb_one (psb_raiseA (n := "NoText") (ns := ["at"]) rfl hx.tk ox_NoText rfl hx.room (by decide) (by rfl) (pab_cons pb_str (pab_cons pb_int pab_nil)))) pssb_nil) (pssb_cons (psb_if (ptb_cmp (op_eqD hx.room.units) o2_eq (nomark _) (pb_v 1 rfl) pb_str) (pssb_one (psb_ret (pb_tup pab_nil) (fun _ _ _ _ _ _ _ => rid))) pssb_nil) (pssb_cons (psb_setO (i := 2) nd rfl (by first | exact Or.inl rfl | exact Or.inr rfl) (pb_lst pab_nil)) (pssb_cons (psb_for hx.po rfl (pib_enL (by rfl) t.z_enumerate (pb_fz (pb_split (pb_v 1 rfl) pb_str))) (gok_tp rfl (gsok_cons rfl (gsok_cons rfl gsok_nil))) (pg_tl rfl (pgs_cons (pg_name (i := 3) nd rfl (by first | exact Or.inl rfl | exact Or.inr rfl)) (pgs_cons (pg_name (i := 4) nd rfl (by first | exact Or.inl rfl | exact Or.inr rfl)) pgs_nil))) (pssb_cons (psb_set (i := 5) rfl nd rfl (by first | exact Or.inl rfl | exact Or.inr rfl) (pb_call c_f_item_of hx.room (by decide) hx.tk (by rfl) (pab_cons (pb_v 0 rfl) (pab_cons (pb_v 4 rfl) pab_nil)))) (pssb_cons (psb_if (pwb_t (pwb_or (ptb_cmp op_isN o2_isN (nomark _) (pb_v 5 rfl) pb_non) (pwb_or1 (ptb_cmp (op_eqD hx.room.units) o2_eq (nomark _) (pb_v 3 rfl) (pb_gt (by rfl) t.g_MOST_ITEMS))))) (pssb_one (psb_raiseA (n := "NoText") (ns := ["at"]) rfl hx.tk ox_NoText rfl hx.room (by decide) (by rfl) (pab_cons pb_str (pab_cons (pb_v 3 rfl) pab_nil)))) pssb_nil) (pssb_one (psb_app (i := 2) rfl (pb_v 5 rfl)))))) (pssb_one (psb_ret (pb_y1 call_tuple_of o1_tuple (by rfl) t.z_tuple PyProof.Rows.boot_tuple (pb_vl 2 rfl)) (fun _ _ _ _ _ _ _ => rid)))))))
theorem okh_f__law_is_whole (t : Tx K mg C_Full C_GlideError C_Moving C_NoFraction C_NoItem C_NoLine C_NoMachine C_NoPlace C_NoRate C_NoTape C_NoText C_OffRails) (W : Here K mg "_law_is_whole" (topS 39) ["_law_thing"]) : CalH P w K mg base 1 "_law_is_whole" .fz f__law_is_whole :=
  calH (lin' := []) W sc_f__law_is_whole fun f cdv A outer s H E p en hr => by
  have nd := sc_f__law_is_whole.nd
  exact (pssb_one (psb_ret (pb_and (pb_isi (by rfl) t.z_isinstance (by rfl) t.z_int PyProof.Rows.boot_int (by decide) (pb_v 0 rfl)) (pb_one (pb_not (pb_isi (by rfl) t.z_isinstance (by rfl) t.z_bool PyProof.Rows.boot_bool (by decide) (pb_v 0 rfl))))) (fun _ _ _ _ _ _ _ => rid)))
theorem ok_f__law_is_whole (t : Tx K mg C_Full C_GlideError C_Moving C_NoFraction C_NoItem C_NoLine C_NoMachine C_NoPlace C_NoRate C_NoTape C_NoText C_OffRails) (W : Here K mg "_law_is_whole" (topS 39) ["_law_thing"])  : CalB P w K mg base 1 "_law_is_whole" .fz f__law_is_whole :=
  calB (lin' := []) W sc_f__law_is_whole fun f cdv A outer s H E en hx => by
  have nd := sc_f__law_is_whole.nd
  exact (pssb_one (psb_ret (pb_and (pb_isi (by rfl) t.z_isinstance (by rfl) t.z_int PyProof.Rows.boot_int (by decide) (pb_v 0 rfl)) (pb_one (pb_not (pb_isi (by rfl) t.z_isinstance (by rfl) t.z_bool PyProof.Rows.boot_bool (by decide) (pb_v 0 rfl))))) (fun _ _ _ _ _ _ _ => rid)))
theorem ok_f__law_told (t : Tx K mg C_Full C_GlideError C_Moving C_NoFraction C_NoItem C_NoLine C_NoMachine C_NoPlace C_NoRate C_NoTape C_NoText C_OffRails) (W : Here K mg "_law_told" (topS 54) ["_law_machine_here", "_law_thing"]) (c_f_read_items : CalB P w K mg base 6 "read_items" .fz f_read_items) (c_f__law_is_whole : CalB P w K mg base 1 "_law_is_whole" .fz f__law_is_whole) (ch_f__law_is_whole : CalH P w K mg base 1 "_law_is_whole" .fz f__law_is_whole) : CalB P w K mg base 7 "_law_told" .fz f__law_told :=
  calB (lin' := []) W sc_f__law_told fun f cdv A outer s H E en hx => by
  have nd := sc_f__law_told.nd
  exact (pssb_one (psb_tryM (i := 2) hx nd rfl (by rfl) t.gc_GlideError (fun W pn xe hx => (pssb_one (psb_ret (pb_call c_f_read_items hx.room (by decide) hx.tk (by rfl) (pab_cons (pb_v 0 rfl) (pab_cons (pb_v 1 rfl) pab_nil))) (fun _ _ _ _ _ _ _ => rid)))) (subs_cons t.gc_NoText t.ex_NoText_GlideError (fun a oe d args pn hz hf hna => (pssx_cons (psx_if (ptx_val (pex_isT t.xi_NoText hz hf hna (by rfl) t.z_isinstance rfl (by first | exact Or.inl rfl | exact Or.inr (Or.inl rfl) | exact Or.inr (Or.inr rfl)) (pacs_cons t.gc_Full (by rfl) (pacs_cons t.gc_Moving (by rfl) (pacs_cons t.gc_NoFraction (by rfl) (pacs_cons t.gc_NoItem (by rfl) (pacs_cons t.gc_NoLine (by rfl) (pacs_cons t.gc_NoMachine (by rfl) (pacs_cons t.gc_NoPlace (by rfl) (pacs_cons t.gc_NoRate (by rfl) (pacs_cons t.gc_NoTape (by rfl) (pacs_cons t.gc_OffRails (by rfl) pacs_nil)))))))))) (.cons (.cons (.cons (.cons (.cons (.cons (.cons (.cons (.cons (.cons .nil)))))))))) t.ka_NoText_Full_Moving_NoFraction_NoItem_NoLine_NoMachine_NoPlace_NoRate_NoTape_OffRails (by show (10 : Nat) ≤ 1000; decide))) (pssx_one (psx_ret (pex_of pb_str) (fun _ _ _ _ _ _ _ => rid))) pssx_nil) (pssx_cons (psx_if (pwx_t (pwx_or (ptx_not (ptx_val (pex_isE t.xi_NoText hz hf hna (by rfl) t.z_isinstance rfl (by first | exact Or.inl rfl | exact Or.inr (Or.inl rfl) | exact Or.inr (Or.inr rfl)) (by rfl) t.gc_NoText t.kt_NoText_NoText))) (pwx_or (ptx_not (ptx_val (pex_isV t.xi_NoText hz hf hna (by rfl) t.z_isinstance rfl (by first | exact Or.inl rfl | exact Or.inr (Or.inl rfl) | exact Or.inr (Or.inr rfl)) (by rfl) t.z_ValueError (by decide +kernel) t.kt_NoText_ValueError))) (pwx_or1 (ptx_not (ptx_val (pex_callH ch_f__law_is_whole (hot_of hz hf) (hot_room hx.room) (by decide) (by rfl) (pax_cons (pex_x0 (f := "at") ⟨t.xi_NoText.hg, t.xi_NoText.hk, t.xi_NoText.hs, t.xi_NoText.hd⟩ t.xf_NoText_at hz hf rfl (by first | exact Or.inl rfl | exact Or.inr (Or.inl rfl) | exact Or.inr (Or.inr rfl))) pax_nil)))))))) (pssx_one (psx_ret (pex_of pb_str) (fun _ _ _ _ _ _ _ => rid))) pssx_nil) (pssx_one (psx_ret (pex_x0 (f := "at") ⟨t.xi_NoText.hg, t.xi_NoText.hk, t.xi_NoText.hs, t.xi_NoText.hd⟩ t.xf_NoText_at hz hf rfl (by first | exact Or.inl rfl | exact Or.inr (Or.inl rfl) | exact Or.inr (Or.inr rfl))) (fun _ _ _ _ _ _ _ => rid)))))) subs_nil)))
theorem ok_f_law (t : Tx K mg C_Full C_GlideError C_Moving C_NoFraction C_NoItem C_NoLine C_NoMachine C_NoPlace C_NoRate C_NoTape C_NoText C_OffRails) {f : Addr} {fd : FuncData} (W : L2.Fun K "law" "law" (topS 55) f fd) (c_f__law_bag : CalB P w K mg base 1 "_law_bag" .fz f__law_bag) (c_f__law_machine : CalB P w K mg base 2 "_law_machine" .fz f__law_machine) (c_f__law_take : CalB P w K mg base 1 "_law_take" .fz f__law_take) (c_f__law_text : CalB P w K mg base 4 "_law_text" .fz f__law_text) (c_f__law_due : CalB P w K mg base 4 "_law_due" .fz f__law_due) (c_f__law_told : CalB P w K mg base 7 "_law_told" .fz f__law_told) : FnOk P w K mg base (L2N.CX P w) 8 f fd ["_law_script"] (spB K mg .fz f_law) :=
  fnB (lin' := []) W sc_f_law fun f cdv A outer s H E en hx => by
  have nd := sc_f_law.nd
  exact (pssb_cons (psb_for hx.po rfl (pib_r1 (by rfl) t.z_range (pb_c2 (call_max2 rfl) o2_max (by rfl) t.z_max PyProof.Rows.boot_max pb_int (pb_c2 (call_min2 rfl) o2_min (by rfl) t.z_min PyProof.Rows.boot_min pb_int (pb_c1 call_len o1_len (by rfl) t.z_len PySem.boot_len (pb_v 0 rfl))))) (gok_nm rfl) (pg_name (i := 1) nd rfl (by first | exact Or.inl rfl | exact Or.inr rfl)) (pssb_cons (psb_set (i := 2) rfl nd rfl (by first | exact Or.inl rfl | exact Or.inr rfl) (pb_call c_f__law_bag hx.room (by decide) hx.tk (by rfl) (pab_cons (pb_v 0 rfl) (pab_cons (pb_v 1 rfl) pab_nil)))) (pssb_cons (psb_set (i := 3) rfl nd rfl (by first | exact Or.inl rfl | exact Or.inr rfl) (pb_ix ix_seq o2_ix (fun _ _ => rfl) (pb_lst (pab_cons pb_non (pab_cons pb_int (pab_cons pb_bl (pab_cons (pb_fz (pb_lst pab_nil)) (pab_cons (pb_fz (pb_lst (pab_cons pb_str pab_nil))) (pab_cons (pb_tup (pab_cons pb_str pab_nil)) (pab_cons (pb_tup pab_nil) (pab_cons (pb_op op_pow o2_pow pb_int pb_int) (pab_cons (pb_tup (pab_cons pb_str (pab_cons pb_int pab_nil))) (pab_cons pb_bl pab_nil))))))))))) (pb_call c_f__law_take hx.room (by decide) hx.tk (by rfl) (pab_cons (pb_v 2 rfl) (pab_cons pb_int pab_nil))))) (pssb_cons (psb_set (i := 4) rfl nd rfl (by first | exact Or.inl rfl | exact Or.inr rfl) (pb_call c_f__law_machine hx.room (by decide) hx.tk (by rfl) (pab_cons (pb_v 2 rfl) pab_nil))) (pssb_cons (psb_set (i := 5) rfl nd rfl (by first | exact Or.inl rfl | exact Or.inr rfl) (pb_c1 call_len o1_len (by rfl) t.z_len PySem.boot_len (pb_ix ix_seq o2_ix (fun _ _ => rfl) (pb_v 4 rfl) pb_int))) (pssb_one (psb_for hx.po rfl (pib_list (pb_fz (pb_lst (pab_cons (pb_call c_f__law_text hx.room (by decide) hx.tk (by rfl) (pab_cons (pb_v 2 rfl) (pab_cons (pb_v 5 rfl) pab_nil))) (pab_cons (pb_call c_f__law_text hx.room (by decide) hx.tk (by rfl) (pab_cons (pb_v 2 rfl) (pab_cons (pb_v 5 rfl) pab_nil))) (pab_cons (pb_v 3 rfl) pab_nil)))))) (gok_nm rfl) (pg_name (i := 6) nd rfl (by first | exact Or.inl rfl | exact Or.inr rfl)) (pssb_cons (psb_set (i := 7) rfl nd rfl (by first | exact Or.inl rfl | exact Or.inr rfl) (pb_call c_f__law_due hx.room (by decide) hx.tk (by rfl) (pab_cons (pb_v 6 rfl) (pab_cons (pb_v 5 rfl) pab_nil)))) (pssb_one (psb_for hx.po rfl (pib_r1 (by rfl) t.z_range pb_int) (gok_nm rfl) (pg_name (i := 8) nd rfl (by first | exact Or.inl rfl | exact Or.inr rfl)) (pssb_cons (psb_set (i := 9) rfl nd rfl (by first | exact Or.inl rfl | exact Or.inr rfl) (pb_call c_f__law_told hx.room (by decide) hx.tk (by rfl) (pab_cons (pb_v 4 rfl) (pab_cons (pb_v 6 rfl) pab_nil)))) (pssb_one (psb_if (pwb_t (pwb_or (ptb_cmp (op_neD hx.room.units) o2_ne (nomark _) (pb_isi (by rfl) t.z_isinstance (by rfl) t.z_tuple PyProof.Rows.boot_tuple (by decide) (pb_v 9 rfl)) (pb_isi (by rfl) t.z_isinstance (by rfl) t.z_tuple PyProof.Rows.boot_tuple (by decide) (pb_v 7 rfl))) (pwb_or1 (ptb_cmp (op_neD hx.room.units) o2_ne (nomark _) (pb_v 9 rfl) (pb_v 7 rfl))))) (pssb_one (psb_ret pb_bl (fun _ _ _ _ _ _ _ => rid))) pssb_nil))))))))))))) (pssb_one (psb_ret pb_bl (fun _ _ _ _ _ _ _ => rid))))
theorem scx_NoText : FnScope ["self", "words", "at"] ["self", "words", "at"] (defScope (inClass (topS 9) 0)) := ⟨rfl, rfl, rfl, by decide +kernel, rfl, by decide +kernel, by decide +kernel⟩
theorem okx_NoText (t : Tx K mg C_Full C_GlideError C_Moving C_NoFraction C_NoItem C_NoLine C_NoMachine C_NoPlace C_NoRate C_NoTape C_NoText C_OffRails) (W : HereX K mg "NoText" "NoText.__init__" C_NoText (inClass (topS 9) 0) ["self", "words", "at"] ["at"]) : OexB P w K mg base "NoText" C_NoText (["at"].map Str.ofString) :=
  oexB1 W scx_NoText fun f cdv A outer s H E => pss_cons (ps_expr (pe_ginit (by rfl) t.gc_GlideError t.sg_GlideError t.sr_GlideError t.sv_GlideError (pa_cons (pv 0) (pa_cons (pv 1) pa_nil)))) (pss_one (ps_ost (pv 0) (pv 2)))
theorem all_ok (t : Tx K mg C_Full C_GlideError C_Moving C_NoFraction C_NoItem C_NoLine C_NoMachine C_NoPlace C_NoRate C_NoTape C_NoText C_OffRails) {f : Addr} {fd : FuncData} (W : L2.Fun K "law" "law" (topS 55) f fd) (W__law_bag : Here K mg "_law_bag" (topS 37) ["_law_script", "_law_at"]) (W__law_take : Here K mg "_law_take" (topS 38) ["_law_bag_here", "_law_many"]) (W__law_machine : Here K mg "_law_machine" (topS 40) ["_law_bag_here"]) (W__law_word : Here K mg "_law_word" (topS 50) ["_law_bag_here", "_law_word_here"]) (W__law_words_put : Here K mg "_law_words_put" (topS 51) ["_law_bag_here", "_law_text_here"]) (W__law_sign : Here K mg "_law_sign" (topS 45) ["_law_bag_here"]) (W__law_signs_put : Here K mg "_law_signs_put" (topS 52) ["_law_bag_here", "_law_text_here"]) (W__law_item_text : Here K mg "_law_item_text" (topS 43) ["_law_item_here"]) (W__law_name : Here K mg "_law_name" (topS 41) ["_law_bag_here"]) (W__law_item : Here K mg "_law_item" (topS 42) ["_law_bag_here", "_law_axes"]) (W__law_text : Here K mg "_law_text" (topS 53) ["_law_bag_here", "_law_axes"]) (W__law_number_read : Here K mg "_law_number_read" (topS 46) ["_law_word_here", "_law_low", "_law_high"]) (W__law_line_read : Here K mg "_law_line_read" (topS 47) ["_law_words", "_law_axes"]) (W__law_item_read : Here K mg "_law_item_read" (topS 48) ["_law_text_here", "_law_axes"]) (W__law_due : Here K mg "_law_due" (topS 49) ["_law_text_here", "_law_axes"]) (W_is_whole : Here K mg "is_whole" (topS 14) ["thing"]) (W_is_within : Here K mg "is_within" (topS 16) ["thing", "least", "most"]) (W_is_name : Here K mg "is_name" (topS 26) ["thing"]) (W_are_steps : Here K mg "are_steps" (topS 24) ["machine", "thing"]) (W_is_speed : Here K mg "is_speed" (topS 25) ["thing"]) (W_is_item : Here K mg "is_item" (topS 27) ["machine", "thing"]) (W_are_figures : Here K mg "are_figures" (topS 32) ["text"]) (W_number_of : Here K mg "number_of" (topS 33) ["text"]) (W_item_of : Here K mg "item_of" (topS 34) ["machine", "text"]) (W_read_items : Here K mg "read_items" (topS 35) ["machine", "text"]) (W__law_is_whole : Here K mg "_law_is_whole" (topS 39) ["_law_thing"]) (W__law_told : Here K mg "_law_told" (topS 54) ["_law_machine_here", "_law_thing"]) (Wx_NoText : HereX K mg "NoText" "NoText.__init__" C_NoText (inClass (topS 9) 0) ["self", "words", "at"] ["at"])  : FnOk P w K mg base (L2N.CX P w) 8 f fd ["_law_script"] (spB K mg .fz f_law) := by
  have ox_NoText := okx_NoText (P := P) (w := w) (base := base) t Wx_NoText
  have ch_f__law_is_whole : CalH P w K mg base 1 "_law_is_whole" .fz f__law_is_whole := okh_f__law_is_whole t W__law_is_whole
  have c_f__law_bag : CalB P w K mg base 1 "_law_bag" .fz f__law_bag := ok_f__law_bag t W__law_bag 
  have c_f__law_take : CalB P w K mg base 1 "_law_take" .fz f__law_take := ok_f__law_take t W__law_take 
  have c_f__law_machine : CalB P w K mg base 2 "_law_machine" .fz f__law_machine := ok_f__law_machine t W__law_machine c_f__law_take
  have c_f__law_word : CalB P w K mg base 2 "_law_word" .fz f__law_word := ok_f__law_word t W__law_word c_f__law_take
  have c_f__law_words_put : CalB P w K mg base 3 "_law_words_put" .fz f__law_words_put := ok_f__law_words_put t W__law_words_put c_f__law_take c_f__law_word
  have c_f__law_sign : CalB P w K mg base 2 "_law_sign" .fz f__law_sign := ok_f__law_sign t W__law_sign c_f__law_take
  have c_f__law_signs_put : CalB P w K mg base 3 "_law_signs_put" .fz f__law_signs_put := ok_f__law_signs_put t W__law_signs_put c_f__law_take c_f__law_sign
  have c_f__law_item_text : CalB P w K mg base 1 "_law_item_text" .fz f__law_item_text := ok_f__law_item_text t W__law_item_text 
  have c_f__law_name : CalB P w K mg base 2 "_law_name" .fz f__law_name := ok_f__law_name t W__law_name c_f__law_take
  have c_f__law_item : CalB P w K mg base 3 "_law_item" .fz f__law_item := ok_f__law_item t W__law_item c_f__law_take c_f__law_name
  have c_f__law_text : CalB P w K mg base 4 "_law_text" .fz f__law_text := ok_f__law_text t W__law_text c_f__law_take c_f__law_words_put c_f__law_signs_put c_f__law_item_text c_f__law_item
  have c_f__law_number_read : CalB P w K mg base 1 "_law_number_read" .fz f__law_number_read := ok_f__law_number_read t W__law_number_read 
  have c_f__law_line_read : CalB P w K mg base 2 "_law_line_read" .fz f__law_line_read := ok_f__law_line_read t W__law_line_read c_f__law_number_read
  have c_f__law_item_read : CalB P w K mg base 3 "_law_item_read" .fz f__law_item_read := ok_f__law_item_read t W__law_item_read c_f__law_line_read c_f__law_number_read
  have c_f__law_due : CalB P w K mg base 4 "_law_due" .fz f__law_due := ok_f__law_due t W__law_due c_f__law_item_read
  have c_f_is_whole : CalB P w K mg base 1 "is_whole" .fz f_is_whole := ok_f_is_whole t W_is_whole 
  have c_f_is_within : CalB P w K mg base 2 "is_within" .fz f_is_within := ok_f_is_within t W_is_within c_f_is_whole
  have c_f_is_name : CalB P w K mg base 1 "is_name" .fz f_is_name := ok_f_is_name t W_is_name 
  have c_f_are_steps : CalB P w K mg base 3 "are_steps" .fz f_are_steps := ok_f_are_steps t W_are_steps c_f_is_within
  have c_f_is_speed : CalB P w K mg base 3 "is_speed" .fz f_is_speed := ok_f_is_speed t W_is_speed c_f_is_within
  have c_f_is_item : CalB P w K mg base 4 "is_item" .fz f_is_item := ok_f_is_item t W_is_item c_f_is_within c_f_is_name c_f_are_steps c_f_is_speed
  have c_f_are_figures : CalB P w K mg base 1 "are_figures" .fz f_are_figures := ok_f_are_figures t W_are_figures 
  have c_f_number_of : CalB P w K mg base 2 "number_of" .fz f_number_of := ok_f_number_of t W_number_of c_f_are_figures
  have c_f_item_of : CalB P w K mg base 5 "item_of" .fz f_item_of := ok_f_item_of t W_item_of c_f_is_item c_f_number_of
  have c_f_read_items : CalB P w K mg base 6 "read_items" .fz f_read_items := ok_f_read_items t W_read_items c_f_item_of ox_NoText
  have c_f__law_is_whole : CalB P w K mg base 1 "_law_is_whole" .fz f__law_is_whole := ok_f__law_is_whole t W__law_is_whole 
  have c_f__law_told : CalB P w K mg base 7 "_law_told" .fz f__law_told := ok_f__law_told t W__law_told c_f_read_items c_f__law_is_whole ch_f__law_is_whole
  exact ok_f_law t W c_f__law_bag c_f__law_machine c_f__law_take c_f__law_text c_f__law_due c_f__law_told
end
end Lw
namespace Lw
open PySem PySem.Spec PyProof.Rows L2 GB
theorem bag_loop {k c m : Int} {ns : List Int} {n : Nat} {x : Option T} {h : IH} {N : Ev → IH → Prop} {M : T → IH → Prop} (hn : n ≤ ns.length) (hn2 : n ≤ 60) (h0 : 0 ≤ m) (h1 : m < 2147483629)
    (p : ∀ m' x, 0 ≤ m' → m' < 2147483629 → N [some (.lst (ns.map T.int)), some (.int k), some (.int c), some (.int m'), x] h) :
    OkS (forGo (.nm 4) f__law_bag_b1 (rngL 0 n 1) [some (.lst (ns.map T.int)), some (.int k), some (.int c), some (.int m), x] h) N M := by
  apply range_forP (fun _ τ h' => h' = h ∧ ∃ m' x, τ = [some (.lst (ns.map T.int)), some (.int k), some (.int c), some (.int m'), x] ∧ 0 ≤ m' ∧ m' < 2147483629)
  case h0 => exact ⟨rfl, m, x, rfl, h0, h1⟩
  case fin =>
    rintro τ h' ⟨eh, m', x', e, g0, g1⟩
    rw [e, eh]; exact p _ _ g0 g1
  intro j τ h' hj hI
  have b1 : 0 ≤ 0 + (j : Int) * 1 := by omega
  have b2 : 0 + (j : Int) * 1 < ns.length := by omega
  obtain ⟨z, hz, ez⟩ := int_atI b1 b2
  obtain ⟨eh, m', x', e, g0, g1⟩ := hI
  rw [e, eh]
  refine ⟨_, rfl, ?_⟩
  unfold f__law_bag_b1
  simp only [W_all, Q_all, L_all, bindP, wipeT, setAll, Nat.reduceSub, Nat.reduceAdd, reduceIte, ez]
  have ej : (0 + (j : Int) * 1) = j := by omega
  rw [ej]
  have hjj : (j : Int) * j ≤ 60 * 60 := Int.mul_le_mul (by omega) (by omega) (by omega) (by omega)
  have hj0 : 0 ≤ (j : Int) * j := Int.mul_nonneg (by omega) (by omega)
  have hzm : 0 ≤ z.fmod 2147483647 ∧ z.fmod 2147483647 < 2147483647 := by rw [fmod_p (by decide)]; omega
  refine ⟨okMul_10 (by omega) (by omega) (by omega) (by omega), by decide, okMul_10 (by omega) (by omega) (by omega) (by omega), ⟨by decide, by decide, ?_⟩, by decide, ?_⟩
  · omega
  · refine ⟨_, _, rfl, ?_⟩
    rw [fmod_p (by decide)]
    omega
theorem bag_spec {ns : List Int} {k : Int} {h : IH} (hf : flatH h = true) (hl : ns.length ≤ 1000) (h0 : 0 ≤ k) (h1 : k ≤ 100) {P : T → IH → Prop} (p : ∀ n h', Bag h' n → P (.box n) h') : Ok (f__law_bag [.lst (ns.map T.int), .int k] h) P := by
  unfold f__law_bag
  rw [w_runF]
  refine ⟨rfl, ?_⟩
  have hkk : k * k ≤ 100 * 100 := Int.mul_le_mul (by omega) (by omega) (by omega) (by omega)
  have hk0 : 0 ≤ k * k := Int.mul_nonneg (by omega) (by omega)
  have e79 : 7919 * k * k = 7919 * (k * k) := Int.mul_assoc _ _ _
  have k79 : 7919 * k * k ≤ 7919 * 10000 := by omega
  have hmin : (if (60 : Int) < (ns.length : Int) then (60 : Int) else (ns.length : Int)).toNat ≤ ns.length ∧ (if (60 : Int) < (ns.length : Int) then (60 : Int) else (ns.length : Int)).toNat ≤ 60 := by split <;> omega
  have fin : ∀ c : Int, 0 ≤ c → okMul 7919 k = true ∧ okMul (7919 * k) k = true ∧ okMul 104729 k = true ∧ ((-4611686018427387904 ≤ if (60 : Int) < ns.length then (60 : Int) else ns.length) ∧ (if (60 : Int) < ns.length then (60 : Int) else ns.length) < 4611686018427387904) ∧
      OkS (forGo (.nm 4) f__law_bag_b1 (rngL 0 (if (60 : Int) < ns.length then (60 : Int) else ns.length).toNat 1) [some (.lst (ns.map T.int)), some (.int k), some (.int c), some (.int (7919 * k * k + 104729 * k + 17)), none] h)
        (fun τ' h' => ∃ m' x, 0 ≤ m' ∧ m' < 2147483629 ∧ τ' = [some (.lst (ns.map T.int)), some (.int k), some (.int c), some (.int m'), x] ∧ h' = h) P := fun c hc => by
    refine ⟨okMul_10 (by omega) (by omega) (by omega) (by omega), okMul_10 (by omega) (by omega) (by omega) (by omega), okMul_10 (by omega) (by omega) (by omega) (by omega), by split <;> omega, ?_⟩
    exact bag_loop hmin.1 hmin.2 (by omega) (by omega) fun m' x q0 q1 => ⟨m', x, q0, q1, rfl, rfl⟩
  have main : ∀ c : Int, 0 ≤ c → OkS (sSeq (sSet 3 (eBin gAdd (eBin gAdd (eBin gMul (eBin gMul (eC (.int 7919)) (eV 1)) (eV 1)) (eBin gMul (eC (.int 104729)) (eV 1))) (eC (.int 17)))) (sSeq (sFor (iR1 (eBin gMin2 (eUn gLen (eV 0)) (eC (.int 60)))) (.nm 4) f__law_bag_b1) (sSeq (sIf (sOf (eBin gLt (eV 2) (eBin gPow (eC (.int 10)) (eC (.int 18))))) (sSet 2 (eC (.int 0))) sSkip) (sRet (eBox (aCons (eV 2) (aCons (eV 3) aNil))))))
      [some (.lst (ns.map T.int)), some (.int k), some (.int c), none, none] h) (fun _ h' => P .non h') P := fun c hc => by
    obtain ⟨q1, q2, q3, q4, q5⟩ := fin c hc
    simp only [W_all, Q_all, L_all, bindP, wipeT, setAll, Nat.reduceSub, Nat.reduceAdd, reduceIte, List.length_map]
    refine ⟨q1, q2, q3, q4, q5.imp ?_ fun _ _ q => q⟩
    rintro τ' h' ⟨m', x, g0, g1, rfl, rfl⟩
    simp only [W_all, Q_all, L_all, bindP, wipeT, setAll, Nat.reduceSub, Nat.reduceAdd, reduceIte, List.length_map]
    refine ⟨by decide, ?_⟩
    have w : ∀ c : Int, 0 ≤ c → 2 ≤ sizeLine ∧ P (.box h'.length) (h' ++ [.lst [.int c, .int m']]) := fun c hc => ⟨two_line, p _ _ ⟨c, m', end_get, hc, g0, g1, flat_end hf⟩⟩
    split
    · exact w 0 (by decide)
    · exact w c hc
  rw [v_Seq, v_Set, w_C, v_Seq]
  simp only [v_If, W_all, Q_all, L_all, bindP, wipeT, setAll, Nat.reduceSub, Nat.reduceAdd, reduceIte, List.length_map]
  simp only [v_Seq, W_all, Q_all, L_all, bindP, wipeT, setAll, Nat.reduceSub, Nat.reduceAdd, reduceIte, List.length_map] at main
  split
  · obtain ⟨z, hz, ez⟩ := int_atI (ns := ns) (k := k) h0 (by omega)
    refine ⟨_, ez, _, rfl, ?_⟩
    exact main _ (Int.natCast_nonneg _)
  · exact main 0 (by decide)
theorem take_loop {n : Nat} {many room number c m : Int} {y : Option T} {h : IH} {N : Ev → IH → Prop} {M : T → IH → Prop} (hm : many < 10 ^ 58)
    (hf : flatH h = true) (hb : h[n]? = some (.lst [.int c, .int m])) (m0 : 0 ≤ m) (m1 : m < 2147483629) (r1 : 1 ≤ room) (r2 : room < 10 ^ 58 * 1073741789) (u0 : 0 ≤ number) (u1 : number < room)
    (p : ∀ h' m' number' room', flatH h' = true → h'[n]? = some (.lst [.int c, .int m']) → 0 ≤ m' → m' < 2147483629 → 0 ≤ number' → N [some (.box n), some (.int many), some (.int number'), some (.int room'), y] h') :
    OkS (sWh (sOf (eBin gLt (eV 3) (eV 1))) f__law_take_b1 [some (.box n), some (.int many), some (.int number), some (.int room), y] h) N M := by
  refine wh_inv (fun j τ h' => ∃ m' number' room', τ = [some (.box n), some (.int many), some (.int number'), some (.int room'), y] ∧ flatH h' = true ∧ h'[n]? = some (.lst [.int c, .int m']) ∧ 0 ≤ m' ∧ m' < 2147483629 ∧ 1 ≤ room' ∧ room' < 10 ^ 58 * 1073741789 ∧ 0 ≤ number' ∧ number' < room' ∧ (many - room').toNat ≤ j) _ _ _ ⟨m, number, room, rfl, hf, hb, m0, m1, r1, r2, u0, u1, Nat.le_refl _⟩ ?_
  rintro j τ h' ⟨m', number', room', rfl, hf', hb', g0, g1, g2, g3, g4, g5, g6⟩
  simp only [W_all, Q_all, L_all, bindP, wipeT, setAll, Nat.reduceSub, Nat.reduceAdd, reduceIte, q_ixB hb']
  split
  · rename_i lt
    unfold f__law_take_b1
    simp only [W_all, Q_all, L_all, bindP, wipeT, setAll, Nat.reduceSub, Nat.reduceAdd, reduceIte, q_ixB hb']
    have hs : ∀ d : Cell, (h'.set n d)[n]? = some d := fun d => set_get hb'
    refine ⟨okMul_10 (by omega) (by omega) (by omega) (by omega), ⟨by decide, by decide, by omega⟩, by decide, n, 1, _, 1, rfl, rfl, hb', rfl, ?_⟩
    rw [fmod_p (by decide)]
    simp only [W_all, Q_all, L_all, bindP, wipeT, setAll, Nat.reduceSub, Nat.reduceAdd, reduceIte, List.set_cons_succ, List.set_cons_zero, q_ixB (hs _)]
    have gm : 0 ≤ ((m' * 48271 + 7919) ^ Int.toNat 3) % 2147483629 ∧ ((m' * 48271 + 7919) ^ Int.toNat 3) % 2147483629 < 2147483629 := by omega
    generalize ((m' * 48271 + 7919) ^ Int.toNat 3) % 2147483629 = m2 at gm ⊢
    have hd : m2.fdiv 8 = m2 / 8 := fdiv_p (by decide)
    rw [hd, fmod_p (by decide)]
    refine ⟨okMul_10 (by omega) (by omega) (by omega) (by omega), okDiv_10 (by decide) (by decide), okMul_10 (by omega) (by omega) (by omega) (by omega), by decide, okMul_10 (by omega) (by omega) (by omega) (by omega), (many - room' * 1073741789).toNat, by omega, m2, _, _, rfl, flat_set hf', set_get hb', gm.1, gm.2, by omega, by omega, by omega, by omega, Nat.le_refl _⟩
  · exact p _ _ _ _ hf' hb' g0 g1 g4
theorem take_spec {n : Nat} {many : Int} {h : IH} (hb : Bag h n) (h1 : 1 ≤ many) (h2 : many < 10 ^ 58) {P : T → IH → Prop} (p : ∀ d h', Bag h' n → 0 ≤ d → d < many → P (.int d) h') : Ok (f__law_take [.box n, .int many] h) P := by
  obtain ⟨c, m, hb, c0, m0, m1, hf⟩ := hb
  unfold f__law_take
  rw [w_runF]
  refine ⟨rfl, ?_⟩
  rw [v_Seq]
  simp only [v_If, W_all, Q_all, L_all, bindP, wipeT, setAll, Nat.reduceSub, Nat.reduceAdd, reduceIte, q_ixB hb]
  have hmod : ∀ z : Int, 0 ≤ z.fmod many ∧ z.fmod many < many := fun z => by
    rw [fmod_p (by omega)]; exact ⟨Int.emod_nonneg _ (by omega), Int.emod_lt_of_pos _ (by omega)⟩
  split
  · refine ⟨by omega, okDiv_10 (by omega) (by omega), n, 0, _, 0, rfl, rfl, hb, rfl, ?_⟩
    refine p _ _ ⟨_, m, set_get hb, ?_, m0, m1, flat_set hf⟩ (hmod _).1 (hmod _).2
    rw [fdiv_p (by omega)]
    exact Int.ediv_nonneg c0 (by omega)
  · refine take_loop h2 hf hb m0 m1 (by decide) (by decide) (by decide) (by decide) ?_
    intro h' m' number' room' hf' hb' g0 g1 g2
    simp only [W_all, Q_all, L_all, bindP, wipeT, setAll, Nat.reduceSub, Nat.reduceAdd, reduceIte]
    exact ⟨by omega, p _ _ ⟨c, m', hb', c0, g0, g1, hf'⟩ (hmod _).1 (hmod _).2⟩
theorem machine_spec {n : Nat} {h : IH} (hb : Bag h n) {P : T → IH → Prop}
    (p : ∀ (xs : List Int) (a b c d : Int) (h' : IH), Bag h' n → 2 ≤ xs.length → xs.length ≤ 3 → (∀ x ∈ xs, 1 ≤ x ∧ x ≤ 100) → 1 ≤ a ∧ a ≤ 50 → 1 ≤ b ∧ b ≤ 50 → 1 ≤ c ∧ c ≤ 50 → 1 ≤ d ∧ d ≤ 100 → P (machT xs a b c d) h') : Ok (f__law_machine [.box n] h) P := by
  unfold f__law_machine
  rw [w_runF]
  refine ⟨rfl, ?_⟩
  simp only [W_all, Q_all, L_all, bindP, wipeT, setAll, Nat.reduceSub, Nat.reduceAdd, reduceIte]
  refine take_spec hb (by decide) (by decide) fun ax h1 hb1 x0 x1 => ?_
  try simp only [W_all, Q_all, L_all, bindP, wipeT, setAll, Nat.reduceSub, Nat.reduceAdd, reduceIte]
  unfold f__law_machine_r3
  simp only [W_all, Q_all, L_all, bindP, wipeT, setAll, Nat.reduceSub, Nat.reduceAdd, reduceIte]
  refine ⟨two_line, take_spec hb1 (by decide) (by decide) fun e h2 hb2 e0 e1 => ?_⟩
  have hv : ∃ v : Int, (1 ≤ v ∧ v ≤ 100) ∧ atI [T.int 100, T.int 20] e = some (.int v) := by
    rcases (by omega : e = 0 ∨ e = 1) with rfl | rfl
    · exact ⟨100, by omega, rfl⟩
    · exact ⟨20, by omega, rfl⟩
  obtain ⟨v, ⟨v0, v1⟩, ev⟩ := hv
  simp only [W_all, Q_all, L_all, bindP, wipeT, setAll, Nat.reduceSub, Nat.reduceAdd, reduceIte, ev]
  unfold f__law_machine_r2
  simp only [W_all, Q_all, L_all, bindP, wipeT, setAll, Nat.reduceSub, Nat.reduceAdd, reduceIte]
  refine ⟨⟨by omega, by omega⟩, ?_⟩
  refine (lc_all (fun h => Bag h n) (fun _ y => ∃ d, y = T.int d ∧ 1 ≤ d ∧ d ≤ 100) hb2 ?_).imp ?_
  · intro t mt h2 hb2
    refine ⟨_, rfl, ?_⟩
    unfold f__law_machine_e1
    simp only [W_all, Q_all, L_all, bindP, wipeT, setAll, Nat.reduceSub, Nat.reduceAdd, reduceIte]
    refine take_spec hb2 (by omega) (by omega) fun d h' hb' d0 d1 => ?_
    simp only [W_all, Q_all, L_all, bindP, wipeT, setAll, Nat.reduceSub, Nat.reduceAdd, reduceIte]
    exact ⟨⟨by omega, by omega⟩, hb'⟩
  rintro ys h3 ⟨al, hb3⟩
  obtain ⟨xs, rfl, q1, q2⟩ := all2_ints al
  have ql : (rngL 0 (2 + ax).toNat 1).length = (2 + ax).toNat := by simp [rngL]
  refine ⟨by rw [ql]; exact le_line (by omega), ?_⟩
  try simp only [W_all, Q_all, L_all, bindP, wipeT, setAll, Nat.reduceSub, Nat.reduceAdd, reduceIte]
  unfold f__law_machine_r1
  simp only [W_all, Q_all, L_all, bindP, wipeT, setAll, Nat.reduceSub, Nat.reduceAdd, reduceIte]
  refine ⟨⟨by decide, by decide⟩, ?_⟩
  refine (lc_all (fun h => Bag h n) (fun _ y => ∃ d, y = T.int d ∧ 1 ≤ d ∧ d ≤ 50) hb3 ?_).imp ?_
  · intro t mt h2 hb2
    refine ⟨_, rfl, ?_⟩
    unfold f__law_machine_e2
    simp only [W_all, Q_all, L_all, bindP, wipeT, setAll, Nat.reduceSub, Nat.reduceAdd, reduceIte]
    refine take_spec hb2 (by omega) (by omega) fun d h' hb' d0 d1 => ?_
    simp only [W_all, Q_all, L_all, bindP, wipeT, setAll, Nat.reduceSub, Nat.reduceAdd, reduceIte]
    exact ⟨⟨by omega, by omega⟩, hb'⟩
  rintro ys h4 ⟨al4, hb4⟩
  obtain ⟨bs, rfl, b1, b2⟩ := all2_ints al4
  have bl : bs.length = 3 := by rw [b2]; rfl
  match bs, bl, b1 with
  | [a, b, c], _, b1 =>
    have ha := b1 a (by simp)
    have hb' := b1 b (by simp)
    have hc := b1 c (by simp)
    refine ⟨le_line (by decide), ?_⟩
    try simp only [W_all, Q_all, L_all, bindP, wipeT, setAll, Nat.reduceSub, Nat.reduceAdd, reduceIte]
    refine ⟨le_line (by decide), le_line (by decide), ?_⟩
    refine take_spec hb4 (by decide) (by decide) fun d h5 hb5 d0 d1 => ?_
    simp only [W_all, Q_all, L_all, bindP, wipeT, setAll, Nat.reduceSub, Nat.reduceAdd, reduceIte]
    exact ⟨le_line (by decide), le_line (by decide), p xs a b c (1 + d) h5 hb5 (by omega) (by omega) q1 ha hb' hc (by omega)⟩
section
variable {P1 : T → IH → Prop} {f g : SE} {τ : Ev} {h : IH}
theorem w_eSplit : Ok (eSplit f g τ h) P1 = Ok (f τ h) fun x h1 => ∃ z, x = .str z ∧ Ok (g τ h1) fun y h2 => ∃ w, gSplit (.str z) y h2 = some w ∧ P1 w h2 := by
  unfold eSplit
  rw [w_bind]
  congr 1; funext x h1
  cases x with
  | str z => simp only [w_bind, w_of]; exact propext ⟨fun q => ⟨z, rfl, q⟩, fun ⟨_, e, q⟩ => by cases e; exact q⟩
  | _ => exact propext ⟨fun z => z.out.elim, fun ⟨_, e, _⟩ => nomatch e⟩
end
theorem q_split {a b : Str} {h : IH} (hb : (b.length == 0) = false) (ha : a.length + 2 ≤ sizeLine) : gSplit (.str a) (.str b) h = some (.lst ((Txt.split a b).map T.str)) := if_pos ⟨hb, ha⟩
def figB (c : Nat) : Bool := decide (48 ≤ c) && decide (c ≤ 57)
theorem notin_figs {c : Nat} {h : IH} : gIn true (.str ⟨#[c]⟩) (.str "0123456789") h = some (.bl (!figB c)) := by
  show some (T.bl (true ^^ decide (c ∈ ("0123456789" : Str).cps.toList))) = _
  have e : ("0123456789" : Str).cps.toList = (List.range 10).map (· + 48) := by decide +kernel
  rw [e, Bool.true_xor]
  have q : decide (c ∈ (List.range 10).map (· + 48)) = figB c := by
    unfold figB
    rw [Bool.eq_iff_iff, decide_eq_true_iff, Bool.and_eq_true, decide_eq_true_iff, decide_eq_true_iff, List.mem_map]
    constructor
    · rintro ⟨i, mi, rfl⟩
      have := List.mem_range.mp mi
      omega
    · rintro ⟨h1, h2⟩
      exact ⟨c - 48, List.mem_range.mpr (by omega), by omega⟩
  rw [q]
def arF (z : Str) : Bool := (decide (1 ≤ z.length) && decide (z.length ≤ 4)) && (z.cps.toList.all figB && (!decide (z.cps.toList.head? = some 48) || decide (z = "0")))
theorem one_sign {c : Nat} : decide ((⟨#[c]⟩ : Str) = "0") = decide (c = 48) := by
  have e : ("0" : Str) = ⟨#[48]⟩ := by decide +kernel
  rw [Bool.eq_iff_iff, decide_eq_true_iff, decide_eq_true_iff, e]
  constructor
  · intro q
    injection q with q
    injection q with q
    injection q
  · rintro rfl; rfl
theorem all_not {α : Type} {p : α → Bool} : ∀ {l : List α}, (l.map fun x => !p x).any id = !(l.all p)
  | [] => rfl
  | x :: l => by
    rw [List.map_cons, List.any_cons, List.all_cons, all_not, Bool.not_and]; rfl
theorem len_tl (z : Str) : z.cps.toList.length = z.length := by show z.cps.toList.length = z.cps.size; simp
theorem dg_nat (n : Nat) : (dg (n : Int)).cps.toList = (Nat.toDigits 10 n).map Char.toNat := PySem.W.KIN.signs_num n
theorem dg_ne (n : Nat) : (dg (n : Int)).cps.toList ≠ [] := by
  rw [dg_nat]
  intro e
  have h := toDigits_len_ge 10 n
  rw [List.map_eq_nil_iff.mp e] at h
  exact absurd h (by decide)
theorem dg_len4 {n : Nat} (h : n < 10000) : 1 ≤ (dg (n : Int)).length ∧ (dg (n : Int)).length ≤ 4 := by
  constructor
  · rw [← len_tl]
    exact List.length_pos_iff.mpr (dg_ne n)
  · unfold dg
    rw [PySem.ofString_length, Int.toString_eq_repr, Int.repr_eq_if, if_pos (by omega)]
    have : ((n : Int)).toNat < 10 ^ 4 := by omega
    exact (Nat.length_repr_le_iff (k := 4) (by decide)).mpr this
theorem dg_neg {n : Nat} (h : n ≠ 0) : (dg (-(n : Int))).cps.toList = 45 :: (dg (n : Int)).cps.toList := by
  have e1 : toString (-(n : Int)) = "-" ++ toString (n : Int) := by
    rw [Int.toString_eq_repr, Int.repr_eq_if, if_neg (by omega), Int.toString_eq_repr, Int.repr_eq_if, if_pos (by omega), Int.neg_neg]
  unfold dg
  rw [e1, signs_ofString, signs_ofString, String.toList_append, List.map_append]
  rfl
def tlS (z : Str) : Str := ⟨(z.cps.toList.drop 1).toArray⟩
def numT (z : Str) : T :=
  if z.cps.toList.head? = some 45 ∧ z ≠ "-0" ∧ arF (tlS z) = true then .int (-(NumText.digitsVal (tlS z).cps.toList : Int))
  else if arF z = true then .int (NumText.digitsVal z.cps.toList : Int) else .non
theorem cutS_L {z : Str} {lo hi : Option Int} : cutS z lo hi = ⟨(cutL z.cps.toList lo hi).toArray⟩ := by
  unfold L2.cutS cutL
  rw [len_tl]
theorem q_slS {z : Str} {lo hi : Option Int} {h : IH} (lz : z.length ≤ sizeLine) : gSlT (.str z) lo hi h = some (.str ⟨(cutL z.cps.toList lo hi).toArray⟩) := by
  show (if z.length ≤ sizeLine then some (T.str (cutS z lo hi)) else none) = _
  rw [if_pos lz, cutS_L]
theorem strOk_of {l : List Nat} (h : ∀ c ∈ l, c < 1114112) : PyData.strOk ⟨l.toArray⟩ = true := by
  unfold PyData.strOk
  rw [← Array.all_toList, List.all_eq_true]
  intro c m
  exact decide_eq_true (h c m)
theorem of_strOk {z : Str} (h : PyData.strOk z = true) : ∀ c ∈ z.cps.toList, c < 1114112 := by
  unfold PyData.strOk at h
  rw [← Array.all_toList, List.all_eq_true] at h
  intro c m
  exact of_decide_eq_true (h c m)
theorem arF_figs {z : Str} (a : arF z = true) : NumText.AllDigits z.cps.toList ∧ z.cps.toList ≠ [] ∧ z.length ≤ 4 := by
  unfold arF at a
  rw [Bool.and_eq_true, Bool.and_eq_true, Bool.and_eq_true, decide_eq_true_iff, decide_eq_true_iff] at a
  refine ⟨fun c m => ?_, fun e => ?_, a.1.2⟩
  · have := List.all_eq_true.mp a.2.1 c m
    unfold figB at this
    rw [Bool.and_eq_true, decide_eq_true_iff, decide_eq_true_iff] at this
    exact this
  · have := len_tl z
    rw [e] at this
    have := a.1.1
    simp at *
    omega
theorem int_fig {z : Str} {h : IH} (a : arF z = true) : gInt (.str z) h = some (.int (NumText.digitsVal z.cps.toList : Int)) := by
  obtain ⟨a1, a2, a3⟩ := arF_figs a
  show (if z.length ≤ 640 then (PySem.intText? z).map T.int else none) = _
  rw [if_pos (by omega), PySem.intText_digits a1 a2 (by omega)]; rfl
theorem minus_head {z : Str} : decide ((⟨(z.cps.toList.take 1).toArray⟩ : Str) = "-") = decide (z.cps.toList.head? = some 45) := by
  have e : ("-" : Str) = ⟨[45].toArray⟩ := by decide +kernel
  rw [Bool.eq_iff_iff, decide_eq_true_iff, decide_eq_true_iff, e]
  cases z.cps.toList with
  | nil => simp
  | cons c cs => simp
theorem numT_tm {k : Nat} {z : Str} : tmT k (numT z) = true := by
  unfold numT
  split
  · exact tm_int
  · split
    · exact tm_int
    · exact tm_non
theorem in_two {a : Str} {h : IH} : gIn false (.str a) (.tup [.str "tool", .str "mark"]) h = some (.bl (decide (a = "tool") || decide (a = "mark"))) := by
  unfold gIn
  split
  · rename_i e; cases e
  · show some (T.bl (false ^^ inV (.str a) [.str "tool", .str "mark"])) = _
    unfold inV
    simp only [List.any_cons, List.any_nil, eqV_str, Bool.false_xor, Bool.or_false]
/-- what stands in a line's parts -/
def rawT (p : Str) (qs : List Str) : T :=
  if p = "line" ∧ 2 < qs.length + 1 then .tup [.str "line", .tup ((qs.map numT).take (qs.length - 1)), numT (qs.getLastD "")]
  else if p = "wait" ∧ qs.length + 1 = 2 then .tup [.str "wait", numT (qs.headD "")]
  else if (decide (p = "tool") || decide (p = "mark")) = true ∧ qs.length + 1 = 2 then .tup [.str p, .str (qs.headD "")] else .non
def readT (ax : Nat) (p : Str) (qs : List Str) : T := if itB ax (rawT p qs) = true then rawT p qs else .non
theorem cut_last {α : Type} {xs : List α} : cutL xs none (some (-1)) = xs.take (xs.length - 1) := by
  unfold cutL
  have e : HT.sIx xs.length xs.length (some (-1)) = xs.length - 1 := by
    show (if (-1 : Int) < 0 then ((-1 : Int) + (xs.length : Int)).toNat else min (-1 : Int).toNat xs.length) = _
    rw [if_pos (by decide)]; omega
  rw [e, HT.sIx_none, List.drop_zero, Nat.sub_zero]
theorem raw_tm {p : Str} {qs : List Str} (ok : ∀ w ∈ p :: qs, PyData.strOk w = true ∧ w.length ≤ 1000) (lq : qs.length ≤ 1000) : tmT 2 (rawT p qs) = true := by
  unfold rawT
  have m1 : ∀ s : Str, PyData.strOk s = true → s.length ≤ 1000 → tmT 1 (.str s) = true := fun s o l => tm_str.mpr ⟨o, l⟩
  split
  · refine tm_tup.mpr ⟨by show 3 ≤ 1000; decide, fun t m => ?_⟩
    rcases List.mem_cons.mp m with rfl | m
    · exact m1 _ (by decide +kernel) (by decide +kernel)
    rcases List.mem_cons.mp m with rfl | m
    · refine tm_tup.mpr ⟨by rw [List.length_take, List.length_map]; omega, fun t m => ?_⟩
      obtain ⟨w, _, rfl⟩ := List.mem_map.mp (List.mem_of_mem_take m)
      exact numT_tm
    rcases List.mem_cons.mp m with rfl | m
    · exact numT_tm
    · cases m
  split
  · refine tm_tup.mpr ⟨by show 2 ≤ 1000; decide, fun t m => ?_⟩
    rcases List.mem_cons.mp m with rfl | m
    · exact m1 _ (by decide +kernel) (by decide +kernel)
    rcases List.mem_cons.mp m with rfl | m
    · exact numT_tm
    · cases m
  split
  · rename_i c
    refine tm_tup.mpr ⟨by show 2 ≤ 1000; decide, fun t m => ?_⟩
    rcases List.mem_cons.mp m with rfl | m
    · exact m1 _ (ok p (by simp)).1 (ok p (by simp)).2
    rcases List.mem_cons.mp m with rfl | m
    · match qs, c.2 with
      | [q], _ => exact m1 _ (ok q (by simp)).1 (ok q (by simp)).2
    · cases m
  · exact tm_non
def wt (zs : List Str) : Nat := (zs.map (·.length)).sum + zs.length
theorem wt_app {a b : List Str} : wt (a ++ b) = wt a + wt b := by
  unfold wt
  rw [List.map_append, List.sum_append, List.length_append]; omega
theorem wt_cons {a : Str} {b : List Str} : wt (a :: b) = a.length + 1 + wt b := by
  unfold wt
  rw [List.map_cons, List.sum_cons, List.length_cons]; omega
theorem wt_join {s : Str} {zs : List Str} (h : s.length = 1) : (Txt.join s zs).length ≤ wt zs := by
  have := join_len (s := s) (zs := zs)
  rw [h] at this
  unfold wt; omega
theorem wt_mem {zs : List Str} {z : Str} (m : z ∈ zs) : z.length + 1 ≤ wt zs := by
  induction zs with
  | nil => cases m
  | cons a zs ih =>
    rw [wt_cons]
    rcases List.mem_cons.mp m with rfl | m
    · omega
    · have := ih m; omega
theorem wt_len {zs : List Str} : zs.length ≤ wt zs := by unfold wt; omega
theorem wt_cut {zs : List Str} {j : Nat} {z : Str} (e : zs[j]? = some z) : wt zs = wt (zs.take j) + (z.length + 1 + wt (zs.drop (j + 1))) := by
  obtain ⟨hj, ez⟩ := List.getElem?_eq_some_iff.mp e
  have e1 : zs = zs.take j ++ (z :: zs.drop (j + 1)) := by
    have := List.drop_eq_getElem_cons hj
    rw [ez] at this
    rw [← this, List.take_append_drop]
  conv => lhs; rw [e1]
  rw [wt_app, wt_cons]
theorem wt_two {zs : List Str} {j : Nat} : wt zs = wt (zs.take j) + wt (zs.drop j) := by
  rw [← wt_app, List.take_append_drop]
theorem spl_w {s : Nat} : ∀ {l acc : List Nat}, ((TL.spl [s] 0 acc l).map List.length).sum + (TL.spl [s] 0 acc l).length = acc.length + l.length + 1
  | [], acc => by rw [TL.spl_nil]; simp
  | c :: r, acc => by
    cases hp : TL.pre [s] (c :: r) with
    | true =>
      rw [TL.spl_hit hp]
      have := spl_w (s := s) (l := r) (acc := [])
      show ((acc :: TL.spl [s] 0 [] r).map List.length).sum + (acc :: TL.spl [s] 0 [] r).length = _
      rw [List.map_cons, List.sum_cons, List.length_cons, List.length_cons]
      rw [List.length_nil] at this
      omega
    | false =>
      rw [TL.spl_miss hp]
      have := spl_w (s := s) (l := r) (acc := acc ++ [c])
      rw [this]; simp; omega
theorem spl_in {s : Nat} : ∀ {l acc : List Nat} {p : List Nat}, p ∈ TL.spl [s] 0 acc l → ∀ c ∈ p, c ∈ acc ++ l
  | [], acc, p, m, c, mc => by
    rw [TL.spl_nil] at m
    rw [List.mem_singleton.mp m] at mc
    simpa using mc
  | d :: r, acc, p, m, c, mc => by
    cases hp : TL.pre [s] (d :: r) with
    | true =>
      rw [TL.spl_hit hp] at m
      rcases List.mem_cons.mp (show p ∈ acc :: TL.spl [s] 0 [] r from m) with rfl | m
      · exact List.mem_append_left _ mc
      · have := spl_in m c mc
        simp at this
        simp [this]
    | false =>
      rw [TL.spl_miss hp] at m
      have := spl_in m c mc
      simpa using this
theorem spl_ne {s : Nat} : ∀ {l acc : List Nat}, TL.spl [s] 0 acc l ≠ []
  | [], acc => by rw [TL.spl_nil]; simp
  | d :: r, acc => by
    cases hp : TL.pre [s] (d :: r) with
    | true => rw [TL.spl_hit hp]; simp
    | false => rw [TL.spl_miss hp]; exact spl_ne
theorem split_facts {z y : Str} {s : Nat} (ey : TL.tl y = [s]) (hk : y.cps.all (· < 256) = true) (oz : PyData.strOk z = true) : Txt.split z y ≠ [] ∧ wt (Txt.split z y) = z.length + 1 ∧ ∀ p ∈ Txt.split z y, PyData.strOk p = true := by
  have e := TL.split_spl z y (by rw [ey]; simp) (TL.kind_ok hk)
  rw [ey] at e
  refine ⟨fun q => ?_, ?_, fun p m => ?_⟩
  · rw [q] at e
    exact spl_ne e.symm
  · have w := spl_w (s := s) (l := TL.tl z) (acc := [])
    rw [← e, List.map_map, List.length_map] at w
    have : (Txt.split z y).map (·.length) = (Txt.split z y).map (List.length ∘ TL.tl) := List.map_congr_left fun p _ => (len_tl p).symm
    unfold wt
    rw [this]
    have := len_tl z
    have t : (TL.tl z).length = z.length := this
    rw [t, List.length_nil] at w
    omega
  · have m2 : TL.tl p ∈ (Txt.split z y).map TL.tl := List.mem_map.mpr ⟨p, m, rfl⟩
    rw [e] at m2
    have := spl_in m2
    have q : PyData.strOk ⟨(TL.tl p).toArray⟩ = true := strOk_of fun c mc => of_strOk oz c (by simpa using this c mc)
    exact q
theorem split_sp {z : Str} (oz : PyData.strOk z = true) : Txt.split z " " ≠ [] ∧ wt (Txt.split z " ") = z.length + 1 ∧ ∀ p ∈ Txt.split z " ", PyData.strOk p = true := split_facts (s := 32) (by decide +kernel) (by decide +kernel) oz
theorem split_nl {z : Str} (oz : PyData.strOk z = true) : Txt.split z "\n" ≠ [] ∧ wt (Txt.split z "\n") = z.length + 1 ∧ ∀ p ∈ Txt.split z "\n", PyData.strOk p = true := split_facts (s := 10) (by decide +kernel) (by decide +kernel) oz
theorem at_allP {l : List T} {Q : T → Prop} {d : Int} (h : ∀ t ∈ l, Q t) (d0 : 0 ≤ d) (d1 : d < l.length) : ∃ t, atI l d = some t ∧ Q t := by
  obtain ⟨j, rfl⟩ : ∃ j : Nat, d = j := ⟨d.toNat, by omega⟩
  have hj : j < l.length := by omega
  exact ⟨l[j], by rw [at_nat]; exact List.getElem?_eq_getElem hj, h _ (List.getElem_mem hj)⟩
theorem word_spec {n : Nat} {h : IH} {w : Str} (hb : Bag h n) (ow : PyData.strOk w = true) (lw : w.length ≤ 1000) {P : T → IH → Prop} (p : ∀ (v : Str) h', Bag h' n → PyData.strOk v = true → v.length ≤ w.length + 9 → P (.str v) h') : Ok (f__law_word [.box n, .str w] h) P := by
  have hs : (100000 : Nat) ≤ sizeLine := by decide
  have l0 : ("0" : Str).length = 1 := by decide +kernel
  have l1 : ("-" : Str).length = 1 := by decide +kernel
  have a1 : ∀ h : IH, gAdd (.str "0") (.str w) h = some (.str ("0" ++ w)) := fun h => q_addS (by omega)
  have a2 : ∀ h : IH, gAdd (.str "-") (.str w) h = some (.str ("-" ++ w)) := fun h => q_addS (by omega)
  have a3 : ∀ h : IH, gAdd (.str w) (.str "0") h = some (.str (w ++ "0")) := fun h => q_addS (by omega)
  unfold f__law_word
  rw [w_runF]
  refine ⟨rfl, ?_⟩
  simp only [v_Seq, v_If, a1, a2, a3, W_all, Q_all, L_all, bindP, wipeT, setAll, Nat.reduceSub, Nat.reduceAdd, reduceIte]
  refine ⟨by omega, ?_⟩
  unfold f__law_word_r1
  simp only [v_Seq, v_If, W_all, Q_all, L_all, bindP, wipeT, setAll, Nat.reduceSub, Nat.reduceAdd, reduceIte]
  refine ⟨by omega, by omega, ?_⟩
  refine take_spec hb (by decide) (by decide) fun d h2 hb2 d0 d1 => ?_
  have o1 : PyData.strOk ("0" ++ w) = true := ok_app (by decide +kernel) ow
  have o2 : PyData.strOk ("-" ++ w) = true := ok_app (by decide +kernel) ow
  have o3 : PyData.strOk (w ++ "0") = true := ok_app ow (by decide +kernel)
  have key : ∀ v : Str, v ∈ (["0", "-0", "1001", "21", "101", "-101", "line", "wait", "tool", "mark", "up", "down", "", "+1", "1_0", "left", "abcdefghi", "Up", "x", "1.0", "a1"] : List Str) → PyData.strOk v = true ∧ v.length ≤ 9 := by decide +kernel
  have kk : ∀ v : Str, v ∈ (["0", "-0", "1001", "21", "101", "-101", "line", "wait", "tool", "mark", "up", "down", "", "+1", "1_0", "left", "abcdefghi", "Up", "x", "1.0", "a1"] : List Str) → ∃ u, T.str v = T.str u ∧ PyData.strOk u = true ∧ u.length ≤ w.length + 9 := fun v m => ⟨v, rfl, (key v m).1, by have := (key v m).2; omega⟩
  rw [q_ixL]
  obtain ⟨t, et, v, rfl, ov, lv⟩ := at_allP (l := [T.str ("0" : Str), T.str ("-0" : Str), T.str ("0" ++ w), T.str ("-" ++ w), T.str (w ++ "0"), T.str ("1001" : Str), T.str ("21" : Str), T.str ("101" : Str), T.str ("-101" : Str), T.str ("line" : Str), T.str ("wait" : Str), T.str ("tool" : Str), T.str ("mark" : Str), T.str ("up" : Str), T.str ("down" : Str), T.str ("" : Str), T.str ("+1" : Str), T.str ("1_0" : Str), T.str ("left" : Str), T.str ("abcdefghi" : Str), T.str ("Up" : Str), T.str ("x" : Str), T.str ("1.0" : Str), T.str ("a1" : Str)]) (Q := fun t => ∃ v, t = T.str v ∧ PyData.strOk v = true ∧ v.length ≤ w.length + 9) (d := d) (by
    simp only [List.forall_mem_cons]
    refine ⟨kk _ (by simp), kk _ (by simp), ⟨_, rfl, o1, by rw [Str.length_append]; omega⟩, ⟨_, rfl, o2, by rw [Str.length_append]; omega⟩, ⟨_, rfl, o3, by rw [Str.length_append]; omega⟩, kk _ (by simp), kk _ (by simp), kk _ (by simp), kk _ (by simp), kk _ (by simp), kk _ (by simp), kk _ (by simp), kk _ (by simp), kk _ (by simp), kk _ (by simp), kk _ (by simp), kk _ (by simp), kk _ (by simp), kk _ (by simp), kk _ (by simp), kk _ (by simp), kk _ (by simp), kk _ (by simp), kk _ (by simp), fun _ m => by cases m⟩) d0 d1
  exact ⟨_, et, p v h2 hb2 ov lv⟩
theorem strs_of {zs : List Str} : strsL (zs.map T.str) = some zs := by
  have := strs_map (g := fun z : Str => z) (l := zs)
  rwa [List.map_id'] at this
theorem cut_to1 {α : Type} {xs : List α} {k : Nat} : cutL xs none (some ((k : Nat) : Int)) = xs.take k := cut_to
theorem cut_from1 {α : Type} {xs : List α} {k : Nat} : cutL xs (some ((k : Int) + 1)) none = xs.drop (k + 1) := by
  have : ((k : Int) + 1) = ((k + 1 : Nat) : Int) := by omega
  rw [this]; exact cut_from
theorem words_put_spec {n : Nat} {h : IH} {z : Str} (hb : Bag h n) (oz : PyData.strOk z = true) (lz : z.length ≤ 484) {P : T → IH → Prop} (p : ∀ (v : Str) h', Bag h' n → PyData.strOk v = true → v.length ≤ z.length * 2 + 25 → P (.str v) h') : Ok (f__law_words_put [.box n, .str z] h) P := by
  have hs : (100000 : Nat) ≤ sizeLine := by decide
  have l0 : ("\n" : Str).length = 1 := by decide +kernel
  have l1 : (" " : Str).length = 1 := by decide +kernel
  obtain ⟨rn, rw1, ro⟩ := split_nl oz
  have rl := wt_len (zs := Txt.split z "\n")
  have r1 : 1 ≤ (Txt.split z "\n").length := List.length_pos_iff.mpr rn
  have sp : ∀ h : IH, gSplit (.str z) (.str "\n") h = some (.lst ((Txt.split z "\n").map T.str)) := fun h => q_split (by decide +kernel) (by omega)
  generalize Txt.split z "\n" = rs at *
  unfold f__law_words_put
  rw [w_runF]
  refine ⟨rfl, ?_⟩
  simp only [W_all, Q_all, L_all, bindP, wipeT, setAll, Nat.reduceSub, Nat.reduceAdd, reduceIte]
  refine take_spec hb (by decide) (by decide) fun how h1 hb1 w0 w1 => ?_
  try simp only [W_all, Q_all, L_all, bindP, wipeT, setAll, Nat.reduceSub, Nat.reduceAdd, reduceIte]
  unfold f__law_words_put_r5
  simp only [w_eSplit, sp, W_all, Q_all, L_all, bindP, wipeT, setAll, Nat.reduceSub, Nat.reduceAdd, reduceIte]
  unfold f__law_words_put_r4
  simp only [List.length_map, W_all, Q_all, L_all, bindP, wipeT, setAll, Nat.reduceSub, Nat.reduceAdd, reduceIte]
  refine take_spec hb1 (by omega) (by omega) fun k h2 hb2 k0 k1 => ?_
  try simp only [W_all, Q_all, L_all, bindP, wipeT, setAll, Nat.reduceSub, Nat.reduceAdd, reduceIte]
  obtain ⟨k, rfl⟩ : ∃ j : Nat, k = j := ⟨k.toNat, by omega⟩
  have hk : k < rs.length := by omega
  have ek := List.getElem?_eq_getElem hk
  have mk : rs[k] ∈ rs := List.getElem_mem hk
  generalize er : rs[k] = row at *
  have orow := ro row mk
  have lrow := wt_mem mk
  obtain ⟨wn, ww, wo⟩ := split_sp orow
  have wl := wt_len (zs := Txt.split row " ")
  have wl1 : 1 ≤ (Txt.split row " ").length := List.length_pos_iff.mpr wn
  have sp2 : ∀ h : IH, gSplit (.str row) (.str " ") h = some (.lst ((Txt.split row " ").map T.str)) := fun h => q_split (by decide +kernel) (by omega)
  generalize Txt.split row " " = ws at *
  have atk : atI (rs.map T.str) ((k : Nat) : Int) = some (.str row) := by rw [at_nat, List.getElem?_map, ek]; rfl
  unfold f__law_words_put_r3
  simp only [w_eSplit, atk, sp2, W_all, Q_all, L_all, bindP, wipeT, setAll, Nat.reduceSub, Nat.reduceAdd, reduceIte]
  unfold f__law_words_put_r2
  simp only [List.length_map, W_all, Q_all, L_all, bindP, wipeT, setAll, Nat.reduceSub, Nat.reduceAdd, reduceIte]
  refine take_spec hb2 (by omega) (by omega) fun j h3 hb3 j0 j1 => ?_
  try simp only [W_all, Q_all, L_all, bindP, wipeT, setAll, Nat.reduceSub, Nat.reduceAdd, reduceIte]
  obtain ⟨j, rfl⟩ : ∃ i : Nat, j = i := ⟨j.toNat, by omega⟩
  have hj : j < ws.length := by omega
  have ej := List.getElem?_eq_getElem hj
  have mj : ws[j] ∈ ws := List.getElem_mem hj
  generalize ew : ws[j] = wd at *
  have owd := wo wd mj
  have lwd := wt_mem mj
  have atj : atI (ws.map T.str) ((j : Nat) : Int) = some (.str wd) := by rw [at_nat, List.getElem?_map, ej]; rfl
  have cj := wt_cut ej
  have cj2 := wt_two (zs := ws) (j := j)
  have ck := wt_cut ek
  have tk : ∀ w ∈ ws.take j, PyData.strOk w = true := fun w m => wo w (List.mem_of_mem_take m)
  have dj : ∀ w ∈ ws.drop j, PyData.strOk w = true := fun w m => wo w (List.mem_of_mem_drop m)
  have dj1 : ∀ w ∈ ws.drop (j + 1), PyData.strOk w = true := fun w m => wo w (List.mem_of_mem_drop m)
  have c1 : cutL (ws.map T.str) none (some ((j : Nat) : Int)) = (ws.take j).map T.str := by rw [cut_to1, List.map_take]
  have c2 : cutL (ws.map T.str) (some ((j : Int) + 1)) none = (ws.drop (j + 1)).map T.str := by rw [cut_from1, List.map_drop]
  have c3 : cutL (ws.map T.str) (some ((j : Nat) : Int)) none = (ws.drop j).map T.str := by rw [cut_from, List.map_drop]
  have c4 : cutL (rs.map T.str) none (some ((k : Nat) : Int)) = (rs.take k).map T.str := by rw [cut_to1, List.map_take]
  have c5 : cutL (rs.map T.str) (some ((k : Int) + 1)) none = (rs.drop (k + 1)).map T.str := by rw [cut_from1, List.map_drop]
  have fin : ∀ (us : List Str) (h' : IH), Bag h' n → (∀ u ∈ us, PyData.strOk u = true) → wt us ≤ row.length + wd.length + 20 →
      ∃ w, gJoin (.str " ") (.lst (us.map T.str)) h' = some w ∧ 1 ≤ sizeLine ∧ ((rs.take k).map T.str).length + 1 ≤ sizeLine ∧ ((rs.take k).map T.str ++ [w]).length + ((rs.drop (k + 1)).map T.str).length ≤ sizeLine ∧ ∃ w_1, gJoin (.str "\n") (.lst ((rs.take k).map T.str ++ [w] ++ (rs.drop (k + 1)).map T.str)) h' = some w_1 ∧ P w_1 h' := by
    intro us h' hb' ou lu
    have ju := wt_join (s := " ") (zs := us) l1
    have jo : PyData.strOk (Txt.join " " us) = true := ok_join (by decide +kernel) ou
    have su : ((us.map (·.length)).sum + us.length * (" " : Str).length ≤ 16777216) := by rw [l1]; unfold wt at lu; omega
    have e1 : ∀ h : IH, gJoin (.str " ") (.lst (us.map T.str)) h = some (.str (Txt.join " " us)) := fun h => q_joinS strs_of su
    have t1 : (rs.take k).length ≤ rs.length := by rw [List.length_take]; omega
    have t2 : (rs.drop (k + 1)).length ≤ rs.length := by rw [List.length_drop]; omega
    generalize eJ : Txt.join " " us = J at *
    have ew : wt ((rs.take k ++ [J]) ++ rs.drop (k + 1)) ≤ z.length * 2 + 25 := by
      rw [wt_app, wt_app, wt_cons]
      have : wt [] = 0 := rfl
      rw [this]; omega
    have jl := wt_join (s := "\n") (zs := (rs.take k ++ [J]) ++ rs.drop (k + 1)) l0
    have ok2 : PyData.strOk (Txt.join "\n" ((rs.take k ++ [J]) ++ rs.drop (k + 1))) = true := ok_join (by decide +kernel) fun u m => by
      rcases List.mem_append.mp m with m | m
      · rcases List.mem_append.mp m with m | m
        · exact ro u (List.mem_of_mem_take m)
        · rw [List.mem_singleton.mp m]; exact jo
      · exact ro u (List.mem_of_mem_drop m)
    have e2 : ∀ h : IH, gJoin (.str "\n") (.lst ((rs.take k).map T.str ++ [T.str J] ++ (rs.drop (k + 1)).map T.str)) h = some (.str (Txt.join "\n" ((rs.take k ++ [J]) ++ rs.drop (k + 1)))) := fun h => by
      have : (rs.take k).map T.str ++ [T.str J] ++ (rs.drop (k + 1)).map T.str = ((rs.take k ++ [J]) ++ rs.drop (k + 1)).map T.str := by simp
      rw [this]
      exact q_joinS strs_of (by rw [l0]; unfold wt at ew; omega)
    refine ⟨_, e1 _, by omega, by rw [List.length_map]; omega, by rw [List.length_append, List.length_map, List.length_map]; simp only [List.length_cons, List.length_nil]; omega, _, e2 _, p _ h' hb' ok2 (by omega)⟩
  unfold f__law_words_put_r1
  simp only [v_Seq, v_If, c1, c2, c3, c4, c5, atj, W_all, Q_all, L_all, bindP, wipeT, setAll, Nat.reduceSub, Nat.reduceAdd, reduceIte]
  have t1 : (ws.take j).length ≤ ws.length := by rw [List.length_take]; omega
  have t2 : (ws.drop (j + 1)).length ≤ ws.length := by rw [List.length_drop]; omega
  have t3 : (ws.drop j).length ≤ ws.length := by rw [List.length_drop]; omega
  by_cases hw0 : how = 0
  · rw [if_pos hw0]
    refine ⟨by rw [List.length_map, List.length_map]; omega, ?_⟩
    rw [← List.map_append]
    refine fin _ h3 hb3 (fun u m => ?_) (by rw [wt_app]; omega)
    rcases List.mem_append.mp m with m | m
    · exact tk u m
    · exact dj1 u m
  rw [if_neg hw0]
  by_cases hw1 : how = 1
  · rw [if_pos hw1]
    refine word_spec hb3 owd (by omega) fun v h4 hb4 ov lv => ?_
    refine ⟨by omega, by rw [List.length_map]; omega, by rw [List.length_append, List.length_map, List.length_map]; simp only [List.length_cons, List.length_nil]; omega, ?_⟩
    have em : (ws.take j).map T.str ++ [T.str v] ++ (ws.drop j).map T.str = ((ws.take j ++ [v]) ++ ws.drop j).map T.str := by simp
    rw [em]
    have z0 : wt [] = 0 := rfl
    refine fin _ h4 hb4 (fun u m => ?_) (by rw [wt_app, wt_app, wt_cons, z0]; omega)
    rcases List.mem_append.mp m with m | m
    · rcases List.mem_append.mp m with m | m
      · exact tk u m
      · rw [List.mem_singleton.mp m]; exact ov
    · exact dj u m
  · rw [if_neg hw1]
    refine word_spec hb3 owd (by omega) fun v h4 hb4 ov lv => ?_
    refine ⟨by omega, by rw [List.length_map]; omega, by rw [List.length_append, List.length_map, List.length_map]; simp only [List.length_cons, List.length_nil]; omega, ?_⟩
    have em : (ws.take j).map T.str ++ [T.str v] ++ (ws.drop (j + 1)).map T.str = ((ws.take j ++ [v]) ++ ws.drop (j + 1)).map T.str := by simp
    rw [em]
    have z0 : wt [] = 0 := rfl
    refine fin _ h4 hb4 (fun u m => ?_) (by rw [wt_app, wt_app, wt_cons, z0]; omega)
    rcases List.mem_append.mp m with m | m
    · rcases List.mem_append.mp m with m | m
      · exact tk u m
      · rw [List.mem_singleton.mp m]; exact ov
    · exact dj1 u m
theorem sign_spec {n : Nat} {h : IH} (hb : Bag h n) {P : T → IH → Prop} (p : ∀ (v : Str) h', Bag h' n → PyData.strOk v = true → v.length = 1 → P (.str v) h') : Ok (f__law_sign [.box n] h) P := by
  have hs : (100000 : Nat) ≤ sizeLine := by decide
  have key : ∃ S : Str, S = " !\"#$&'()*+,-./0123456789:;<=>?@ABCDEFGHIJKLMNOPQRSTUVWXYZ[\\]^_`abcdefghijklmnopqrstuvwxyz{|}~" ∧ PyData.strOk S = true ∧ 1 ≤ S.length ∧ S.length ≤ 100 := ⟨_, rfl, by decide +kernel, by decide +kernel, by decide +kernel⟩
  unfold f__law_sign
  rw [w_runF]
  refine ⟨rfl, ?_⟩
  obtain ⟨S, eS, oS, lS, lS2⟩ := key
  rw [← eS]
  have l1 : ("\n" : Str).length = 1 := by decide +kernel
  have qa : ∀ h : IH, gAdd (.str S) (.str "\n") h = some (.str (S ++ "\n")) := fun h => q_addS (by omega)
  have ql := fun h : IH => q_lenS (a := S) (h := h) (by omega)
  have oT : PyData.strOk (S ++ "\n") = true := ok_app oS (by decide +kernel)
  have lT : (S ++ "\n" : Str).length = S.length + 1 := by rw [Str.length_append, l1]
  simp only [v_Seq, v_If, qa, ql, W_all, Q_all, L_all, bindP, wipeT, setAll, Nat.reduceSub, Nat.reduceAdd, reduceIte]
  refine take_spec hb (by omega) (by omega) fun d h2 hb2 d0 d1 => ?_
  obtain ⟨j, rfl⟩ : ∃ i : Nat, d = i := ⟨d.toNat, by omega⟩
  have lc := len_tl (S ++ "\n")
  have hj : j < (S ++ "\n" : Str).cps.toList.length := by rw [lc, lT]; omega
  rw [q_ixS, if_pos (by rw [lT]; omega), at_nat, List.getElem?_eq_getElem hj]
  exact ⟨_, rfl, p _ h2 hb2 (strOk_of fun c m => by
    rw [List.mem_singleton.mp m]
    exact of_strOk oT _ (List.getElem_mem hj)) rfl⟩
theorem signs_put_spec {n : Nat} {h : IH} {z : Str} (hb : Bag h n) (oz : PyData.strOk z = true) (lz : z.length ≤ 5000) {P : T → IH → Prop} (p : ∀ (v : Str) h', Bag h' n → PyData.strOk v = true → v.length ≤ z.length + 3 → P (.str v) h') : Ok (f__law_signs_put [.box n, .str z] h) P := by
  have hs : (100000 : Nat) ≤ sizeLine := by decide
  unfold f__law_signs_put
  rw [w_runF]
  refine ⟨rfl, ?_⟩
  rw [v_Seq, v_For]
  simp only [w_iR1, W_all, Q_all, L_all, bindP, wipeT, setAll, Nat.reduceSub, Nat.reduceAdd, reduceIte]
  refine take_spec hb (by decide) (by decide) fun r h1 hb1 r0 r1 => ?_
  simp only [W_all, Q_all, L_all, bindP, wipeT, setAll, Nat.reduceSub, Nat.reduceAdd, reduceIte]
  refine ⟨⟨by omega, by omega⟩, ?_⟩
  apply range_forP (fun k τ h' => Bag h' n ∧ ∃ v y2 y3 y4 y5, τ = [some (.box n), some (.str v), y2, y3, y4, y5] ∧ PyData.strOk v = true ∧ v.length ≤ z.length + k)
  case h0 => exact ⟨hb1, z, _, _, _, _, rfl, oz, by omega⟩
  case fin =>
    rintro τ h' ⟨hb', v, y2, y3, y4, y5, rfl, ov, lv⟩
    simp only [v_Ret, W_all, Q_all, L_all, bindP, wipeT, setAll, Nat.reduceSub, Nat.reduceAdd, reduceIte]
    exact p v h' hb' ov (by omega)
  rintro k τ h' hk ⟨hb', v, y2, y3, y4, y5, rfl, ov, lv⟩
  have hk3 : k < 3 := by omega
  refine ⟨_, rfl, ?_⟩
  unfold f__law_signs_put_b1
  simp only [v_Seq, v_If, W_all, Q_all, L_all, bindP, wipeT, setAll, Nat.reduceSub, Nat.reduceAdd, reduceIte]
  refine take_spec hb' (by decide) (by decide) fun how h2 hb2 w0 w1 => ?_
  try simp only [W_all, Q_all, L_all, bindP, wipeT, setAll, Nat.reduceSub, Nat.reduceAdd, reduceIte]
  unfold f__law_signs_put_r3
  simp only [v_Seq, v_If, W_all, Q_all, L_all, bindP, wipeT, setAll, Nat.reduceSub, Nat.reduceAdd, reduceIte]
  refine sign_spec hb2 fun u h3 hb3 ou lu => ?_
  try simp only [W_all, Q_all, L_all, bindP, wipeT, setAll, Nat.reduceSub, Nat.reduceAdd, reduceIte]
  unfold f__law_signs_put_r2
  have ql := fun h : IH => q_lenS (a := v) (h := h) (by omega)
  simp only [v_Seq, v_If, ql, W_all, Q_all, L_all, bindP, wipeT, setAll, Nat.reduceSub, Nat.reduceAdd, reduceIte]
  refine take_spec hb3 (by omega) (by omega) fun a h4 hb4 a0 a1 => ?_
  try simp only [W_all, Q_all, L_all, bindP, wipeT, setAll, Nat.reduceSub, Nat.reduceAdd, reduceIte]
  obtain ⟨j, rfl⟩ : ∃ i : Nat, a = i := ⟨a.toNat, by omega⟩
  have hj : j ≤ v.length := by omega
  have lc := len_tl v
  let A : Str := ⟨(v.cps.toList.take j).toArray⟩
  let B : Str := ⟨(v.cps.toList.drop j).toArray⟩
  let C : Str := ⟨(v.cps.toList.drop (j + 1)).toArray⟩
  have lA : A.length = j := by rw [← len_tl]; show (v.cps.toList.take j).length = j; rw [List.length_take, lc]; omega
  have lB : B.length = v.length - j := by rw [← len_tl]; show (v.cps.toList.drop j).length = _; rw [List.length_drop, lc]
  have lC : C.length = v.length - (j + 1) := by rw [← len_tl]; show (v.cps.toList.drop (j + 1)).length = _; rw [List.length_drop, lc]
  have oA : PyData.strOk A = true := strOk_of fun c m => of_strOk ov c (List.mem_of_mem_take m)
  have oB : PyData.strOk B = true := strOk_of fun c m => of_strOk ov c (List.mem_of_mem_drop m)
  have oC : PyData.strOk C = true := strOk_of fun c m => of_strOk ov c (List.mem_of_mem_drop m)
  have s1 : ∀ h : IH, gSlT (.str v) none (some ((j : Nat) : Int)) h = some (.str A) := fun h => by rw [q_slS (by omega), cut_to]
  have s2 : ∀ h : IH, gSlT (.str v) (some ((j : Nat) : Int)) none h = some (.str B) := fun h => by rw [q_slS (by omega), cut_from]
  have s3 : ∀ h : IH, gSlT (.str v) (some ((j : Int) + 1)) none h = some (.str C) := fun h => by rw [q_slS (by omega), cut_from1]
  have g1 : ∀ h : IH, gAdd (.str A) (.str C) h = some (.str (A ++ C)) := fun h => q_addS (by omega)
  have g2 : ∀ h : IH, gAdd (.str A) (.str u) h = some (.str (A ++ u)) := fun h => q_addS (by omega)
  have g3 : ∀ h : IH, gAdd (.str (A ++ u)) (.str B) h = some (.str (A ++ u ++ B)) := fun h => q_addS (by rw [Str.length_append]; omega)
  have g4 : ∀ h : IH, gAdd (.str (A ++ u)) (.str C) h = some (.str (A ++ u ++ C)) := fun h => q_addS (by rw [Str.length_append]; omega)
  have oA : PyData.strOk A = true := oA
  clear_value A B C
  unfold f__law_signs_put_r1
  simp only [v_Seq, v_If, s1, s2, s3, g1, g2, g3, g4, W_all, Q_all, L_all, bindP, wipeT, setAll, Nat.reduceSub, Nat.reduceAdd, reduceIte]
  refine ⟨by omega, ?_⟩
  rcases (by omega : how = 0 ∨ how = 1 ∨ how = 2) with rfl | rfl | rfl
  · exact ⟨_, at0, hb4, A ++ C, _, _, _, _, rfl, ok_app oA oC, by rw [Str.length_append]; omega⟩
  · exact ⟨_, at1, hb4, A ++ u ++ B, _, _, _, _, rfl, ok_app (ok_app oA ou) oB, by rw [Str.length_append, Str.length_append]; omega⟩
  · exact ⟨_, at2, hb4, A ++ u ++ C, _, _, _, _, rfl, ok_app (ok_app oA ou) oC, by rw [Str.length_append, Str.length_append]; omega⟩
theorem item_text_is {ax : Nat} {i : Itm} {h : IH} (ax3 : ax ≤ 3) (o : OkI ax i) (m : MkOk i) : f__law_item_text [itT i] h = .ok (.str (itS i)) h := by
  have hs : (100000 : Nat) ≤ sizeLine := by decide
  have l0 : (" " : Str).length = 1 := by decide +kernel
  have l1 : ("line " : Str).length = 5 := by decide +kernel
  refine Ok.eq ?_
  unfold f__law_item_text
  rw [w_runF]
  refine ⟨rfl, ?_⟩
  have il := itS_len ax3 o m
  cases i with
  | line xs s =>
    have lo : LnOk ax xs s := o
    have qe : ∀ h : IH, gEq (.str "line") (.str "line") h = some (.bl true) := fun h => q_eqR (k := 0) (by decide) (by decide +kernel)
    have bx : ∀ x ∈ xs, x.natAbs < 10 ^ 40 := fun x mx => by have := lo.bnd x mx; omega
    have bs : s.natAbs < 10 ^ 40 := by have := lo.s1; have := lo.s2; omega
    have el : ∀ (a0 : Option T) (h : IH), lcGo (.nm 1) sTrue f__law_item_text_e1 [a0, none] (xs.map T.int) h = .ok (xs.map fun x => T.str (dg x)) h := fun a0 h =>
      lc_maps (τo := fun x => [a0, some (.int x)]) (fun _ _ => rfl) fun x mx => by
        refine Ok.eq ?_
        unfold f__law_item_text_e1
        have q := fun h : IH => q_strI (h := h) (bx x mx)
        simp only [W_all, Q_all, L_all, bindP, wipeT, setAll, Nat.reduceSub, Nat.reduceAdd, reduceIte, q]
    have dl := dgs_len bx
    have jl := join_len (s := " ") (zs := xs.map dg)
    have sl := dg_len bs
    have lx := lo.len
    rw [show itT (.line xs s) = lineT xs s from rfl]
    simp only [v_Seq, v_If, qe, W_all, Q_all, L_all, bindP, wipeT, setAll, Nat.reduceSub, Nat.reduceAdd, reduceIte]
    rw [el, w_ok]
    refine ⟨by rw [List.length_map]; omega, _, q_joinS strs_map (by omega), ?_⟩
    refine ⟨_, q_addS (by omega), _, q_addS (by rw [Str.length_append]; omega), ?_⟩
    have q := q_strI (h := h) bs
    simp only [q, W_all, Q_all, L_all, bindP, wipeT, setAll, Nat.reduceSub, Nat.reduceAdd, reduceIte]
    exact ⟨_, q_addS (by rw [Str.length_append, Str.length_append]; omega), rfl⟩
  | wait n =>
    have qe : ∀ h : IH, gEq (.str "wait") (.str "line") h = some (.bl false) := fun h => eq_no (k := 0) (l := 0) (by decide) (by decide) (by decide +kernel) (by decide +kernel) rfl rfl (fun z => by injection z with z; exact absurd z (by decide +kernel))
    have bn : n.natAbs < 10 ^ 40 := by have := m.1; have := m.2; omega
    have q := fun h : IH => q_strI (h := h) bn
    have sl := dg_len bn
    have lw : ("wait" : Str).length = 4 := by decide +kernel
    simp only [itT, v_Seq, v_If, qe, q, W_all, Q_all, L_all, bindP, wipeT, setAll, Nat.reduceSub, Nat.reduceAdd, reduceIte]
    exact ⟨_, q_addS (by omega), _, q_addS (by rw [Str.length_append]; omega), rfl⟩
  | tool b =>
    have qe : ∀ h : IH, gEq (.str "tool") (.str "line") h = some (.bl false) := fun h => eq_no (k := 0) (l := 0) (by decide) (by decide) (by decide +kernel) (by decide +kernel) rfl rfl (fun z => by injection z with z; exact absurd z (by decide +kernel))
    have lw : ("tool" : Str).length = 4 := by decide +kernel
    have lb : (if b = true then ("up" : Str) else "down").length ≤ 4 := by cases b <;> decide +kernel
    simp only [itT, v_Seq, v_If, qe, q_strS, W_all, Q_all, L_all, bindP, wipeT, setAll, Nat.reduceSub, Nat.reduceAdd, reduceIte]
    exact ⟨_, q_addS (by omega), _, q_addS (by rw [Str.length_append]; omega), by cases b <;> rfl⟩
  | mark z =>
    have qe : ∀ h : IH, gEq (.str "mark") (.str "line") h = some (.bl false) := fun h => eq_no (k := 0) (l := 0) (by decide) (by decide) (by decide +kernel) (by decide +kernel) rfl rfl (fun z => by injection z with z; exact absurd z (by decide +kernel))
    have lw : ("mark" : Str).length = 4 := by decide +kernel
    have lz := m.2
    simp only [itT, v_Seq, v_If, qe, q_strS, W_all, Q_all, L_all, bindP, wipeT, setAll, Nat.reduceSub, Nat.reduceAdd, reduceIte]
    exact ⟨_, q_addS (by omega), _, q_addS (by rw [Str.length_append]; omega), rfl⟩
theorem name_spec3 {n : Nat} {h : IH} (hb : Bag h n) {P : T → IH → Prop} (p : ∀ (z : Str) h', Bag h' n → NmOk z → P (.str z) h') : Ok (f__law_name [.box n] h) P := by
  unfold f__law_name
  rw [w_runF]
  refine ⟨rfl, ?_⟩
  simp only [W_all, Q_all, L_all, bindP, wipeT, setAll, Nat.reduceSub, Nat.reduceAdd, reduceIte]
  refine take_spec hb (by decide) (by decide) fun d h2 hb2 d0 d1 => ?_
  simp only [W_all, Q_all, L_all, bindP, wipeT, setAll, Nat.reduceSub, Nat.reduceAdd, reduceIte]
  refine ⟨⟨by omega, by omega⟩, ?_⟩
  refine (lc_all (fun h => Bag h n) (fun _ y => ∃ c, lowB c = true ∧ y = T.str ⟨#[c]⟩) hb2 ?_).imp ?_
  · intro t mt h3 hb3
    refine ⟨_, rfl, ?_⟩
    unfold f__law_name_e1
    simp only [W_all, Q_all, L_all, bindP, wipeT, setAll, Nat.reduceSub, Nat.reduceAdd, reduceIte]
    refine take_spec hb3 (by decide) (by decide) fun e h4 hb4 e0 e1 => ?_
    obtain ⟨c, ec, hc⟩ := letter_at e0 e1
    simp only [q_ixS, ec]
    refine ⟨_, by rw [if_pos (by decide +kernel)]; rfl, ⟨c, hc, rfl⟩, hb4⟩
  · rintro ys h3 ⟨al, hb3⟩
    have ql : (rngL 0 (1 + d).toNat 1).length = (1 + d).toNat := by simp [rngL]
    obtain ⟨zs, e1, e2, e3, nm⟩ := signs_low al (by rw [ql]; omega) (by rw [ql]; omega)
    exact ⟨by rw [ql]; exact le_line (by omega), _, q_join e1 e3, p _ h3 hb3 nm⟩
theorem item_spec3 {n : Nat} {ax : Nat} {h : IH} (hb : Bag h n) (a2 : 2 ≤ ax) (a3 : ax ≤ 3) {P : T → IH → Prop} (p : ∀ (i : Itm) h', Bag h' n → OkJ ax i → P (itT i) h') : Ok (f__law_item [.box n, .int (ax : Int)] h) P := by
  have hs : (100000 : Nat) ≤ sizeLine := by decide
  unfold f__law_item
  rw [w_runF]
  refine ⟨rfl, ?_⟩
  simp only [W_all, Q_all, L_all, bindP, wipeT, setAll, Nat.reduceSub, Nat.reduceAdd, reduceIte]
  refine take_spec hb (by decide) (by decide) fun k h1 hb1 k0 k1 => ?_
  unfold f__law_item_r7
  simp only [v_Seq, v_If, W_all, Q_all, L_all, bindP, wipeT, setAll, Nat.reduceSub, Nat.reduceAdd, reduceIte]
  split
  · refine take_spec hb1 (by decide) (by decide) fun d h2 hb2 d0 d1 => ?_
    simp only [W_all, Q_all, L_all, bindP, wipeT, setAll, Nat.reduceSub, Nat.reduceAdd, reduceIte]
    exact ⟨two_line, p (.wait (1 + d)) h2 hb2 (show 1 ≤ 1 + d ∧ 1 + d ≤ 1000 by omega)⟩
  unfold f__law_item_r6
  simp only [v_Seq, v_If, W_all, Q_all, L_all, bindP, wipeT, setAll, Nat.reduceSub, Nat.reduceAdd, reduceIte]
  split
  · refine ⟨two_line, take_spec hb1 (by decide) (by decide) fun d h2 hb2 d0 d1 => ?_⟩
    rcases (by omega : d = 0 ∨ d = 1) with rfl | rfl
    · simp only [W_all, Q_all, L_all, bindP, wipeT, setAll, Nat.reduceSub, Nat.reduceAdd, reduceIte]
      exact ⟨two_line, p (.tool true) h2 hb2 trivial⟩
    · simp only [W_all, Q_all, L_all, bindP, wipeT, setAll, Nat.reduceSub, Nat.reduceAdd, reduceIte]
      exact ⟨two_line, p (.tool false) h2 hb2 trivial⟩
  unfold f__law_item_r5
  simp only [v_Seq, v_If, W_all, Q_all, L_all, bindP, wipeT, setAll, Nat.reduceSub, Nat.reduceAdd, reduceIte]
  split
  · refine name_spec3 hb1 fun z h2 hb2 oz => ?_
    try simp only [W_all, Q_all, L_all, bindP, wipeT, setAll, Nat.reduceSub, Nat.reduceAdd, reduceIte]
    exact ⟨two_line, p (.mark z) h2 hb2 oz⟩
  unfold f__law_item_r4
  simp only [v_Seq, v_If, W_all, Q_all, L_all, bindP, wipeT, setAll, Nat.reduceSub, Nat.reduceAdd, reduceIte]
  refine take_spec hb1 (by decide) (by decide) fun s h2 hb2 s0 s1 => ?_
  simp only [W_all, Q_all, L_all, bindP, wipeT, setAll, Nat.reduceSub, Nat.reduceAdd, reduceIte]
  unfold f__law_item_r3
  simp only [W_all, Q_all, L_all, bindP, wipeT, setAll, Nat.reduceSub, Nat.reduceAdd, reduceIte]
  refine ⟨le_line (by decide), take_spec hb2 (by decide) (by decide) fun e h3 hb3 e0 e1 => ?_⟩
  have hv : ∃ v : Int, (3 ≤ v ∧ v ≤ 100) ∧ atI [T.int 3, T.int 20, T.int 100] e = some (.int v) := by
    rcases (by omega : e = 0 ∨ e = 1 ∨ e = 2) with rfl | rfl | rfl
    · exact ⟨3, by omega, rfl⟩
    · exact ⟨20, by omega, rfl⟩
    · exact ⟨100, by omega, rfl⟩
  obtain ⟨v, ⟨v0, v1⟩, ev⟩ := hv
  simp only [W_all, Q_all, L_all, bindP, wipeT, setAll, Nat.reduceSub, Nat.reduceAdd, reduceIte, ev]
  unfold f__law_item_r2
  simp only [W_all, Q_all, L_all, bindP, wipeT, setAll, Nat.reduceSub, Nat.reduceAdd, reduceIte]
  refine ⟨⟨by omega, by omega⟩, ?_⟩
  refine (lc_all (fun h => Bag h n) (fun _ y => ∃ d, y = T.int d ∧ -100 ≤ d ∧ d ≤ 100) hb3 ?_).imp ?_
  · intro t mt h4 hb4
    refine ⟨_, rfl, ?_⟩
    unfold f__law_item_e1
    simp only [W_all, Q_all, L_all, bindP, wipeT, setAll, Nat.reduceSub, Nat.reduceAdd, reduceIte]
    refine ⟨okMul_10 (by omega) (by omega) (by omega) (by omega), ?_⟩
    refine take_spec hb4 (by omega) (by omega) fun d h' hb' d0 d1 => ?_
    simp only [W_all, Q_all, L_all, bindP, wipeT, setAll, Nat.reduceSub, Nat.reduceAdd, reduceIte]
    exact ⟨⟨by omega, by omega⟩, hb'⟩
  rintro ys h4 ⟨al, hb4⟩
  obtain ⟨xs, rfl, q1, q2⟩ := all2_ints al
  have ql : (rngL 0 (ax : Int).toNat 1).length = ax := by simp [rngL]
  rw [ql] at q2
  refine ⟨by rw [ql]; exact le_line (by omega), ?_⟩
  try simp only [W_all, Q_all, L_all, bindP, wipeT, setAll, Nat.reduceSub, Nat.reduceAdd, reduceIte]
  unfold f__law_item_r1
  have fin : ∀ (xs : List Int) (h' : IH), Bag h' n → xs.length = ax → (∀ x ∈ xs, -100 ≤ x ∧ x ≤ 100) → (∃ x ∈ xs, x ≠ 0) → P (itT (.line xs (1 + s))) h' := fun xs h' hb' lx bx nz => p (.line xs (1 + s)) h' hb' ⟨lx, bx, nz, by omega, by omega⟩
  simp only [v_Seq, v_If, W_all, Q_all, L_all, bindP, wipeT, setAll, Nat.reduceSub, Nat.reduceAdd, reduceIte, q_anyI]
  cases ea : xs.any (· != 0) with
  | true =>
    simp only [v_If, W_all, Q_all, L_all, bindP, wipeT, setAll, Nat.reduceSub, Nat.reduceAdd, reduceIte]
    obtain ⟨x, mx, hx⟩ := List.any_eq_true.mp ea
    exact ⟨three_line, fin xs h4 hb4 q2 q1 ⟨x, mx, by simpa using hx⟩⟩
  | false =>
    simp only [v_If, W_all, Q_all, L_all, bindP, wipeT, setAll, Nat.reduceSub, Nat.reduceAdd, reduceIte, List.length_map]
    refine take_spec hb4 (by omega) (by omega) fun j h5 hb5 j0 j1 => ?_
    obtain ⟨i, rfl⟩ : ∃ i : Nat, j = (i : Int) := ⟨j.toNat, by omega⟩
    have ix : ixN xs.length (i : Int) = some i := ix_nat (by omega)
    have em : ∀ w : Int, (xs.map T.int).set i (T.int w) = (xs.set i w).map T.int := fun w => by rw [← List.map_set]
    simp only [W_all, Q_all, L_all, bindP, wipeT, setAll, Nat.reduceSub, Nat.reduceAdd, reduceIte, List.length_map, ix, em]
    refine ⟨three_line, fin (xs.set i 1) h5 hb5 (by rw [List.length_set]; exact q2) (fun x mx => ?_) ⟨1, List.mem_iff_getElem.mpr ⟨i, by rw [List.length_set]; omega, by simp⟩, by decide⟩⟩
    rcases List.mem_or_eq_of_mem_set mx with m | rfl
    · exact q1 x m
    · omega
theorem dg_short {x : Int} (h0 : -999 ≤ x) (h1 : x ≤ 9999) : (dg x).length ≤ 4 := by
  rcases Int.lt_or_le x 0 with hi | hi
  · obtain ⟨n, rfl⟩ : ∃ n : Nat, x = -(n : Int) := ⟨(-x).toNat, by omega⟩
    have n0 : n ≠ 0 := by omega
    have e := dg_neg n0
    have l3 : (dg (n : Int)).length ≤ 3 := by
      unfold dg
      rw [PySem.ofString_length, Int.toString_eq_repr, Int.repr_eq_if, if_pos (by omega)]
      have : ((n : Int)).toNat < 10 ^ 3 := by omega
      exact (Nat.length_repr_le_iff (k := 3) (by decide)).mpr this
    rw [← len_tl, e, List.length_cons, len_tl]; omega
  · obtain ⟨n, rfl⟩ : ∃ n : Nat, x = (n : Int) := ⟨x.toNat, by omega⟩
    exact (dg_len4 (by omega)).2
theorem joinS_wt {s : Str} (hs : s.length = 1) : ∀ {zs : List Str}, zs ≠ [] → (Str.join s zs).length + 1 = wt zs
  | [], h => absurd rfl h
  | [z], _ => rfl
  | x :: y :: r, _ => by
    show (x ++ s ++ Str.join s (y :: r)).length + 1 = _
    have := joinS_wt hs (zs := y :: r) (by simp)
    rw [Str.length_append, Str.length_append, wt_cons, hs]; omega
theorem dg_two {n : Nat} (h : n < 100) : (dg (n : Int)).length ≤ 2 := by
  unfold dg
  rw [PySem.ofString_length, Int.toString_eq_repr, Int.repr_eq_if, if_pos (by omega)]
  have : ((n : Int)).toNat < 10 ^ 2 := by omega
  exact (Nat.length_repr_le_iff (k := 2) (by decide)).mpr this
theorem itS_22 {ax : Nat} {i : Itm} (a3 : ax ≤ 3) (o : OkJ ax i) : (itS i).length ≤ 22 := by
  have l0 : (" " : Str).length = 1 := by decide +kernel
  have l1 : ("line " : Str).length = 5 := by decide +kernel
  have l2 : ("wait" : Str).length = 4 := by decide +kernel
  have l3 : ("tool" : Str).length = 4 := by decide +kernel
  have l4 : ("mark" : Str).length = 4 := by decide +kernel
  have l5 : ("up" : Str).length = 2 := by decide +kernel
  have l6 : ("down" : Str).length = 4 := by decide +kernel
  cases i with
  | line xs s =>
    have lo : LnOk ax xs s := o
    have a := sum_le (n := 4) (zs := xs.map dg) fun z m => by
      obtain ⟨x, mx, rfl⟩ := List.mem_map.mp m
      have := lo.bnd x mx
      exact dg_short (by omega) (by omega)
    have d := lo.len
    have b : (Txt.join " " (xs.map dg)).length ≤ 14 := by
      rw [TL.join_eq]
      cases xs with
      | nil => exact Nat.zero_le _
      | cons x0 xs0 =>
        have := joinS_wt (s := " ") l0 (zs := (x0 :: xs0).map dg) (by simp)
        unfold wt at this
        rw [List.length_map] at a this
        omega
    have c : (dg s).length ≤ 2 := by
      have := lo.s1
      have := lo.s2
      obtain ⟨n, rfl⟩ : ∃ n : Nat, s = (n : Int) := ⟨s.toNat, by omega⟩
      exact dg_two (by omega)
    show ("line " ++ Txt.join " " (xs.map dg) ++ " " ++ dg s : Str).length ≤ 22
    rw [Str.length_append, Str.length_append, Str.length_append]
    omega
  | wait n =>
    have o : 1 ≤ n ∧ n ≤ 1000 := o
    have c := dg_short (x := n) (by omega) (by omega)
    show ("wait" ++ " " ++ dg n : Str).length ≤ 22
    rw [Str.length_append, Str.length_append]
    omega
  | tool b =>
    show ("tool" ++ " " ++ (if b then "up" else "down") : Str).length ≤ 22
    rw [Str.length_append, Str.length_append]
    cases b
    · show 4 + 1 + ("down" : Str).length ≤ 22; omega
    · show 4 + 1 + ("up" : Str).length ≤ 22; omega
  | mark z =>
    have o : NmOk z := o
    have := o.l2
    show ("mark" ++ " " ++ z : Str).length ≤ 22
    rw [Str.length_append, Str.length_append]
    omega
theorem in3 {a x y z : Int} {h : IH} : ∃ b, gIn false (.int a) (.lst [.int x, .int y, .int z]) h = some (.bl b) := by
  unfold gIn
  split
  · rename_i e; cases e
  · exact ⟨false ^^ inV (.int a) [.int x, .int y, .int z], rfl⟩
theorem all2_texts {ax : Nat} {ts ys : List T} (a3 : ax ≤ 3) (h : All2 (fun _ y => ∃ i, y = T.str (itS i) ∧ OkJ ax i) ts ys) : ∃ zs : List Str, ys = zs.map T.str ∧ zs.length = ts.length ∧ ∀ z ∈ zs, PyData.strOk z = true ∧ z.length ≤ 22 := by
  induction h with
  | nil => exact ⟨[], rfl, rfl, fun i m => by cases m⟩
  | cons q _ ih =>
    obtain ⟨i, rfl, o⟩ := q
    obtain ⟨zs, rfl, h1, h3⟩ := ih
    refine ⟨itS i :: zs, rfl, by simp [h1], fun j mj => ?_⟩
    rcases List.mem_cons.mp mj with rfl | mj
    · exact ⟨itS_ok o.mk, itS_22 a3 o⟩
    · exact h3 j mj
theorem text_spec {n ax : Nat} {h : IH} (hb : Bag h n) (a2 : 2 ≤ ax) (a3 : ax ≤ 3) {P : T → IH → Prop} (p : ∀ (v : Str) h', Bag h' n → PyData.strOk v = true → v.length ≤ 999 → P (.str v) h') : Ok (f__law_text [.box n, .int (ax : Int)] h) P := by
  have hs : (100000 : Nat) ≤ sizeLine := by decide
  unfold f__law_text
  rw [w_runF]
  refine ⟨rfl, ?_⟩
  simp only [v_Seq, v_If, W_all, Q_all, L_all, bindP, wipeT, setAll, Nat.reduceSub, Nat.reduceAdd, reduceIte]
  refine take_spec hb (by decide) (by decide) fun sp h1 hb1 s0 s1 => ?_
  try simp only [W_all, Q_all, L_all, bindP, wipeT, setAll, Nat.reduceSub, Nat.reduceAdd, reduceIte]
  unfold f__law_text_r5
  simp only [v_Seq, v_If, W_all, Q_all, L_all, bindP, wipeT, setAll, Nat.reduceSub, Nat.reduceAdd, reduceIte]
  refine take_spec hb1 (by decide) (by decide) fun m1 h2 hb2 m10 m11 => ?_
  try simp only [W_all, Q_all, L_all, bindP, wipeT, setAll, Nat.reduceSub, Nat.reduceAdd, reduceIte]
  refine take_spec hb2 (by decide) (by decide) fun m2 h3 hb3 m20 m21 => ?_
  try simp only [W_all, Q_all, L_all, bindP, wipeT, setAll, Nat.reduceSub, Nat.reduceAdd, reduceIte]
  refine ⟨le_line (by decide), take_spec hb3 (by decide) (by decide) fun e h4 hb4 e0 e1 => ?_⟩
  have hv : ∃ v : Int, (0 ≤ v ∧ v ≤ 21) ∧ atI [T.int m1, T.int 20, T.int 21, T.int m2] e = some (.int v) := by
    rcases (by omega : e = 0 ∨ e = 1 ∨ e = 2 ∨ e = 3) with rfl | rfl | rfl | rfl
    · exact ⟨m1, by omega, rfl⟩
    · exact ⟨20, by omega, rfl⟩
    · exact ⟨21, by omega, rfl⟩
    · exact ⟨m2, by omega, rfl⟩
  obtain ⟨many, ⟨v0, v1⟩, ev⟩ := hv
  try simp only [W_all, Q_all, L_all, bindP, wipeT, setAll, Nat.reduceSub, Nat.reduceAdd, reduceIte, ev]
  unfold f__law_text_r4
  rw [v_Seq, v_If]
  have rest : ∀ ax : Nat, 2 ≤ ax → ax ≤ 3 → ∀ x5 : Option T, OkS (f__law_text_r3 [some (.box n), some (.int (ax : Int)), some (.int sp), some (.int many), none, none] h4) (fun _ _ => False) P := by
    intro ax a2 a3 x5
    unfold f__law_text_r3
    simp only [v_Seq, v_If, W_all, Q_all, L_all, bindP, wipeT, setAll, Nat.reduceSub, Nat.reduceAdd, reduceIte]
    refine ⟨by omega, ?_⟩
    refine (lc_all (fun h => Bag h n) (fun _ y => ∃ i, y = T.str (itS i) ∧ OkJ ax i) hb4 ?_).imp ?_
    · intro t mt h5 hb5
      refine ⟨_, rfl, ?_⟩
      unfold f__law_text_e1
      simp only [W_all, Q_all, L_all, bindP, wipeT, setAll, Nat.reduceSub, Nat.reduceAdd, reduceIte]
      refine item_spec3 hb5 a2 a3 fun i h' hb' oi => ?_
      rw [item_text_is a3 oi.okI oi.mk, w_ok]
      exact ⟨⟨i, rfl, oi⟩, hb'⟩
    rintro ys h5 ⟨al, hb5⟩
    obtain ⟨zs, rfl, lz, oz⟩ := all2_texts a3 al
    have ql : (rngL 0 many.toNat 1).length = many.toNat := by simp [rngL]
    rw [ql] at lz
    have l0 : ("\n" : Str).length = 1 := by decide +kernel
    have sl := sum_le (n := 22) (zs := zs) fun z m => (oz z m).2
    have jl := wt_join (s := "\n") (zs := zs) l0
    have wz : wt zs ≤ 483 := by unfold wt; omega
    have oj : PyData.strOk (Txt.join "\n" zs) = true := ok_join (by decide +kernel) fun z m => (oz z m).1
    refine ⟨by rw [ql]; omega, _, q_joinS strs_of (by rw [l0]; omega), ?_⟩
    generalize Txt.join "\n" zs = J at *
    unfold f__law_text_r2
    have last : ∀ (v : Str) (h' : IH), Bag h' n → PyData.strOk v = true → v.length ≤ 995 → OkS (f__law_text_r1 [some (.box n), some (.int (ax : Int)), some (.int sp), some (.int many), some (.str v), none] h') (fun _ _ => False) P := by
      intro v h' hb' ov lv
      unfold f__law_text_r1
      obtain ⟨b, eb⟩ := in3 (a := sp) (x := 3) (y := 4) (z := 5) (h := h')
      simp only [v_Seq, v_If, eb, W_all, Q_all, L_all, bindP, wipeT, setAll, Nat.reduceSub, Nat.reduceAdd, reduceIte]
      refine ⟨le_line (by decide), ?_⟩
      cases b with
      | true =>
        simp only [v_Seq, v_If, W_all, Q_all, L_all, bindP, wipeT, setAll, Nat.reduceSub, Nat.reduceAdd, reduceIte]
        refine signs_put_spec hb' ov (by omega) fun u h'' hb'' ou lu => ?_
        try simp only [W_all, Q_all, L_all, bindP, wipeT, setAll, Nat.reduceSub, Nat.reduceAdd, reduceIte]
        exact p u h'' hb'' ou (by omega)
      | false =>
        simp only [v_Seq, v_If, W_all, Q_all, L_all, bindP, wipeT, setAll, Nat.reduceSub, Nat.reduceAdd, reduceIte]
        exact p v h' hb' ov (by omega)
    obtain ⟨b, eb⟩ := in3 (a := sp) (x := 1) (y := 2) (z := 3) (h := h5)
    rw [v_Seq, v_If]
    simp only [eb, W_all, Q_all, L_all, bindP, wipeT, setAll, Nat.reduceSub, Nat.reduceAdd, reduceIte]
    refine ⟨le_line (by decide), ?_⟩
    cases b with
    | true =>
      simp only [W_all, Q_all, L_all, bindP, wipeT, setAll, Nat.reduceSub, Nat.reduceAdd, reduceIte]
      refine words_put_spec hb5 oj (by omega) fun u h'' hb'' ou lu => ?_
      try simp only [W_all, Q_all, L_all, bindP, wipeT, setAll, Nat.reduceSub, Nat.reduceAdd, reduceIte]
      exact last u h'' hb'' ou (by omega)
    | false =>
      simp only [W_all, Q_all, L_all, bindP, wipeT, setAll, Nat.reduceSub, Nat.reduceAdd, reduceIte]
      exact last J h5 hb5 oj (by omega)
  simp only [W_all, Q_all, L_all, bindP, wipeT, setAll, Nat.reduceSub, Nat.reduceAdd, reduceIte]
  by_cases h0 : sp = 0
  · rw [if_pos h0]
    have e5 : (5 : Int) - (ax : Int) = ((5 - ax : Nat) : Int) := by omega
    rw [e5]
    exact (rest _ (by omega) (by omega) none).imp (fun _ _ z => z.elim) fun _ _ z => z
  · rw [if_neg h0]
    exact (rest _ a2 a3 none).imp (fun _ _ z => z.elim) fun _ _ z => z
def inT (lo hi : Int) (t : T) : T := if wiB lo hi t = true then t else .non
def arB (z : Str) : Bool := (decide (1 ≤ z.length) && decide (z.length ≤ 4)) && z.cps.toList.all figB
theorem arF_B {z : Str} : arF z = (arB z && (!decide (z.cps.toList.head? = some 48) || decide (z = "0"))) := by
  unfold arF arB
  simp only [Bool.and_assoc]
theorem arB_minus {z : Str} (h : z.cps.toList.head? = some 45) : arB z = false := by
  cases q : arB z with
  | false => rfl
  | true =>
    unfold arB at q
    rw [Bool.and_eq_true] at q
    cases e : z.cps.toList with
    | nil => rw [e] at h; cases h
    | cons c cs =>
      rw [e] at h q
      have hc : c = 45 := by simpa using h
      have := List.all_eq_true.mp q.2 c (by simp)
      rw [hc] at this
      revert this; decide
theorem arF_minus {z : Str} (h : z.cps.toList.head? = some 45) : arF z = false := by rw [arF_B, arB_minus h]; rfl
theorem tls_zero {w : Str} (h : w.cps.toList.head? = some 45) : tlS w = "0" ↔ w = "-0" := by
  have e0 : ("0" : Str) = ⟨[48].toArray⟩ := by decide +kernel
  have e1 : ("-0" : Str) = ⟨[45, 48].toArray⟩ := by decide +kernel
  cases e : w.cps.toList with
  | nil => rw [e] at h; cases h
  | cons c cs =>
    rw [e] at h
    have hc : c = 45 := by simpa using h
    have ew : w = ⟨(45 :: cs).toArray⟩ := Str.ext' (Array.toList_inj.mp (by rw [e, hc]))
    have et : tlS w = ⟨cs.toArray⟩ := by unfold tlS; rw [e]; rfl
    rw [et, ew, e0, e1]
    constructor
    · intro q
      have : cs = [48] := by simpa using q
      rw [this]
    · intro q
      have : cs = [48] := by simpa using q
      rw [this]
/-- what the other reader takes: the word without its minus -/
def rsT (w : Str) : Str := if w.cps.toList.head? = some 45 then tlS w else w
theorem num_no {w : Str} (h : arB (rsT w) = false) : numT w = .non := by
  unfold rsT at h
  unfold numT
  by_cases m : w.cps.toList.head? = some 45
  · rw [if_pos m] at h
    have n1 : arF (tlS w) = false := by rw [arF_B, h]; rfl
    have n2 := arF_minus m
    rw [if_neg (fun c => by have := c.2.2; rw [n1] at this; exact Bool.noConfusion this), if_neg (show ¬ arF w = true from fun c => by rw [n2] at c; cases c)]
  · rw [if_neg m] at h
    have n1 : arF w = false := by rw [arF_B, h]; rfl
    rw [if_neg fun c => m c.1, if_neg (show ¬ arF w = true from fun c => by rw [n1] at c; cases c)]
theorem num_zero {w : Str} (h : (rsT w).cps.toList.head? = some 48) (h0 : w ≠ "0") : numT w = .non := by
  unfold rsT at h
  unfold numT
  by_cases m : w.cps.toList.head? = some 45
  · rw [if_pos m] at h
    rw [if_neg fun c => by
      have := c.2.2
      rw [arF_B, decide_eq_true h, Bool.and_eq_true] at this
      have q : tlS w = "0" := by simpa using this.2
      exact c.2.1 ((tls_zero m).mp q), if_neg (by rw [arF_minus m]; decide)]
  · rw [if_neg m] at h
    rw [if_neg fun c => m c.1, if_neg fun c => by
      rw [arF_B, decide_eq_true h, Bool.and_eq_true] at c
      have q : w = "0" := by simpa using c.2
      exact h0 q]
theorem num_yes {w : Str} (a : arB (rsT w) = true) (h : ¬ ((rsT w).cps.toList.head? = some 48 ∧ w ≠ "0")) : numT w = .int ((NumText.digitsVal (rsT w).cps.toList : Int) * (1 - 2 * (if decide (w.cps.toList.head? = some 45) = true then 1 else 0))) := by
  unfold rsT at *
  unfold numT
  by_cases m : w.cps.toList.head? = some 45
  · rw [if_pos m] at a h ⊢
    have w0 : w ≠ "0" := fun q => by
      rw [q] at m
      revert m; decide +kernel
    have h48 : ¬ (tlS w).cps.toList.head? = some 48 := fun q => h ⟨q, w0⟩
    have hm : w ≠ "-0" := fun q => by
      rw [(tls_zero m).mpr q] at h48
      exact h48 (by decide +kernel)
    rw [if_pos ⟨m, hm, by rw [arF_B, a, decide_eq_false h48]; rfl⟩, decide_eq_true m]
    congr 1
    simp only [if_true]
    omega
  · rw [if_neg m] at a h ⊢
    have af : arF w = true := by
      rw [arF_B, a]
      by_cases q : w.cps.toList.head? = some 48
      · have : w = "0" := Classical.byContradiction fun z => h ⟨q, z⟩
        rw [decide_eq_true this, Bool.or_true]; rfl
      · rw [decide_eq_false q]; rfl
    rw [if_neg fun c => m c.1, if_pos af, decide_eq_false m]
    congr 1
    simp
theorem val_lt : ∀ {cs : List Nat} {a : Nat}, NumText.AllDigits cs → cs.foldl (fun acc c => acc * 10 + (c - 48)) a < (a + 1) * 10 ^ cs.length
  | [], a, _ => by simp
  | c :: cs, a, h => by
    have hc := h.head
    have := val_lt (cs := cs) (a := a * 10 + (c - 48)) h.tail
    rw [List.foldl_cons, List.length_cons, Nat.pow_succ]
    have q : (a * 10 + (c - 48) + 1) * 10 ^ cs.length ≤ ((a + 1) * 10) * 10 ^ cs.length := Nat.mul_le_mul_right _ (by omega)
    have e : (a + 1) * (10 ^ cs.length * 10) = ((a + 1) * 10) * 10 ^ cs.length := by rw [Nat.mul_comm (10 ^ cs.length) 10, Nat.mul_assoc]
    rw [e]
    exact Nat.lt_of_lt_of_le this q
theorem arB_figs {z : Str} (a : arB z = true) : NumText.AllDigits z.cps.toList ∧ z.cps.toList ≠ [] ∧ z.length ≤ 4 ∧ NumText.digitsVal z.cps.toList < 10000 := by
  unfold arB at a
  rw [Bool.and_eq_true, Bool.and_eq_true, decide_eq_true_iff, decide_eq_true_iff] at a
  have ad : NumText.AllDigits z.cps.toList := fun c m => by
    have := List.all_eq_true.mp a.2 c m
    unfold figB at this
    rw [Bool.and_eq_true, decide_eq_true_iff, decide_eq_true_iff] at this
    exact this
  refine ⟨ad, fun e => ?_, a.1.2, ?_⟩
  · have := len_tl z
    rw [e] at this
    have := a.1.1
    simp at *
    omega
  · have := val_lt (a := 0) ad
    have l : z.cps.toList.length ≤ 4 := by rw [len_tl]; exact a.1.2
    have p : 10 ^ z.cps.toList.length ≤ 10 ^ 4 := Nat.pow_le_pow_right (by decide) l
    show List.foldl _ 0 _ < 10000
    omega
theorem int_figB {z : Str} {h : IH} (a : arB z = true) : gInt (.str z) h = some (.int (NumText.digitsVal z.cps.toList : Int)) := by
  obtain ⟨a1, a2, a3, _⟩ := arB_figs a
  show (if z.length ≤ 640 then (PySem.intText? z).map T.int else none) = _
  rw [if_pos (by omega), PySem.intText_digits a1 a2 (by omega)]; rfl
theorem number_read_is {w : Str} {lo hi : Int} {h : IH} (oz : PyData.strOk w = true) (lz : w.length ≤ 1000) : f__law_number_read [.str w, .int lo, .int hi] h = .ok (inT lo hi (numT w)) h := by
  have hs : (100000 : Nat) ≤ sizeLine := by decide
  refine Ok.eq ?_
  unfold f__law_number_read
  rw [w_runF]
  refine ⟨rfl, ?_⟩
  have s1 : ∀ h : IH, gSlT (.str w) none (some 1) h = some (.str ⟨(w.cps.toList.take 1).toArray⟩) := fun h => by
    rw [q_slS (by omega), show cutL w.cps.toList none (some 1) = w.cps.toList.take 1 from cut_to (k := 1)]
  have s2 : ∀ h : IH, gSlT (.str w) (some 1) none h = some (.str (tlS w)) := fun h => by
    rw [q_slS (by omega), show cutL w.cps.toList (some 1) none = w.cps.toList.drop 1 from cut_from (k := 1)]; rfl
  have oc := of_strOk oz
  have o1 : PyData.strOk (⟨(w.cps.toList.take 1).toArray⟩ : Str) = true := strOk_of fun c m => oc c (List.mem_of_mem_take m)
  have o2 : PyData.strOk (tlS w) = true := strOk_of fun c m => oc c (List.mem_of_mem_drop m)
  have l2 : (tlS w).length ≤ 1000 := by
    rw [← len_tl]
    show (w.cps.toList.drop 1).length ≤ 1000
    rw [List.length_drop, len_tl]; omega
  have q1 := fun h : IH => eq_strs (h := h) o1 (b := "-") (by decide +kernel)
  have q0 := fun h : IH => ne_of_eq (eq_strs (h := h) oz (b := "0") (by decide +kernel))
  have or : PyData.strOk (rsT w) = true := by unfold rsT; split <;> assumption
  have lr : (rsT w).length ≤ 1000 := by unfold rsT; split <;> assumption
  have main : OkS (f__law_number_read_r3 [some (.str w), some (.int lo), some (.int hi), some (.str (rsT w)), none, none] h) (fun τ' h' => False) (fun t h' => t = inT lo hi (numT w) ∧ h' = h) := by
    have n1 := fun q => num_no (w := w) q
    have n2 := fun q => num_zero (w := w) q
    have n3 := fun q => num_yes (w := w) q
    generalize er : rsT w = z at *
    have ln := fun h : IH => q_lenS (a := z) (h := h) (by omega)
    have el : ∀ (a0 a1 a2 a3 a4 : Option T) (h : IH), lcGo (.nm 5) sTrue f__law_number_read_e1 [a0, a1, a2, a3, a4, none] (z.cps.toList.map fun c => T.str ⟨#[c]⟩) h = .ok ((z.cps.toList.map fun c => !figB c).map T.bl) h := fun a0 a1 a2 a3 a4 h => by
      rw [List.map_map]
      refine lc_maps (τo := fun c => [a0, a1, a2, a3, a4, some (.str ⟨#[c]⟩)]) (fun _ _ => rfl) fun c mc => ?_
      refine Ok.eq ?_
      unfold f__law_number_read_e1
      simp only [W_all, Q_all, L_all, bindP, wipeT, setAll, Nat.reduceSub, Nat.reduceAdd, reduceIte, notin_figs]
      all_goals first | rfl | trivial | exact ⟨rfl, rfl⟩
    have lc := len_tl z
    have non : arB z = false → inT lo hi (numT w) = .non := fun q => by
      rw [n1 q]; unfold inT; exact if_neg Bool.false_ne_true
    unfold f__law_number_read_r3
    simp only [v_Seq, v_If, ln, q_gS, W_all, Q_all, L_all, bindP, wipeT, setAll, Nat.reduceSub, Nat.reduceAdd, reduceIte]
    by_cases h1 : 1 ≤ z.length
    · have h1' : (1 : Int) ≤ (z.length : Int) := by omega
      by_cases h2 : z.length ≤ 4
      · have h2' : (z.length : Int) ≤ 4 := by omega
        simp only [h1', h2', v_Seq, v_If, q_gS, W_all, Q_all, L_all, bindP, wipeT, setAll, Nat.reduceSub, Nat.reduceAdd, reduceIte]
        rw [el, w_ok]
        refine ⟨by rw [List.length_map]; omega, _, q_anyB, ?_⟩
        rw [all_not]
        cases ea : z.cps.toList.all figB with
        | false =>
          have e : arB z = false := by unfold arB; rw [ea, Bool.and_false]
          simp only [v_Seq, v_If, non e, W_all, Q_all, L_all, bindP, wipeT, setAll, Nat.reduceSub, Nat.reduceAdd, reduceIte]
          all_goals first | rfl | trivial | exact ⟨rfl, rfl⟩
        | true =>
          have e : arB z = true := by unfold arB; rw [ea, decide_eq_true h1, decide_eq_true h2]; rfl
          refine ⟨false, rfl, ?_⟩
          rw [if_neg (by decide)]
          obtain ⟨c, cs, ec⟩ : ∃ c cs, z.cps.toList = c :: cs := by
            cases q : z.cps.toList with
            | nil => rw [q] at lc; rw [← lc] at h1; exact absurd h1 (by decide)
            | cons c cs => exact ⟨c, cs, rfl⟩
          have hc : c < 1114112 := of_strOk or c (by rw [ec]; simp)
          have ok1 : PyData.strOk (⟨#[c]⟩ : Str) = true := by
            show (#[c].all fun x => decide (x < 1114112)) = true
            simp [hc]
          have p1 := fun h : IH => eq_strs (h := h) ok1 (b := "0") (by decide +kernel)
          have ix : ∀ h : IH, gIx (.str z) (.int 0) h = some (.str ⟨#[c]⟩) := fun h => by
            rw [q_ixS, if_pos (by omega), ec]
            show (atI (c :: cs) ((0 : Nat) : Int)).map _ = _
            rw [at_nat]; rfl
          have hh : z.cps.toList.head? = some 48 ↔ c = 48 := by rw [ec]; simp
          have gi := fun h : IH => int_figB (h := h) e
          have vl := (arB_figs e).2.2.2
          have last : ¬ (z.cps.toList.head? = some 48 ∧ w ≠ "0") → OkS (f__law_number_read_r1 [some (.str w), some (.int lo), some (.int hi), some (.str z), none, none] h) (fun τ' h' => False) (fun t h' => t = inT lo hi (numT w) ∧ h' = h) := fun q => by
            have n3 := n3 e q
            generalize NumText.digitsVal z.cps.toList = v at *
            unfold f__law_number_read_r1
            simp only [v_Seq, v_If, w_If, s1, q1, minus_head, gi, W_all, Q_all, L_all, bindP, wipeT, setAll, Nat.reduceSub, Nat.reduceAdd, reduceIte]
            rw [n3]
            unfold inT
            obtain ⟨b, eb, b0, b1⟩ : ∃ b : Int, (if decide (w.cps.toList.head? = some 45) = true then (1 : Int) else 0) = b ∧ 0 ≤ b ∧ b ≤ 1 := ⟨_, rfl, by split <;> decide, by split <;> decide⟩
            simp only [eb]
            refine ⟨okMul_10 (by omega) (by omega) (by omega) (by omega), okMul_10 (by omega) (by omega) (by omega) (by omega), ?_⟩
            generalize (v : Int) * (1 - 2 * b) = m
            by_cases g1 : lo ≤ m
            · by_cases g2 : m ≤ hi
              · rw [if_pos g1, if_pos g2, if_pos (show wiB lo hi (.int m) = true from decide_eq_true ⟨g1, g2⟩)]
              · rw [if_pos g1, if_neg g2, if_neg (show ¬ wiB lo hi (.int m) = true from fun q => g2 (of_decide_eq_true q).2)]
            · rw [if_neg g1, if_neg (show ¬ wiB lo hi (.int m) = true from fun q => g1 (of_decide_eq_true q).1)]
          unfold f__law_number_read_r2
          simp only [v_Seq, v_If, ix, p1, q0, one_sign, W_all, Q_all, L_all, bindP, wipeT, setAll, Nat.reduceSub, Nat.reduceAdd, reduceIte]
          by_cases z48 : c = 48
          · by_cases w0 : w = "0"
            · have := last (fun q => q.2 w0)
              simp only [z48, w0, v_Seq, v_If, decide_true, W_all, Q_all, L_all, bindP, wipeT, setAll, Nat.reduceSub, Nat.reduceAdd, reduceIte]
              rw [w0] at this
              exact this
            · have := n2 (hh.mpr z48) w0
              rw [this]
              simp only [z48, w0, v_Seq, v_If, decide_true, decide_false, W_all, Q_all, L_all, bindP, wipeT, setAll, Nat.reduceSub, Nat.reduceAdd, reduceIte]
              all_goals first | rfl | trivial | exact ⟨rfl, rfl⟩
          · have := last (fun q => z48 (hh.mp q.1))
            simp only [z48, v_Seq, v_If, decide_true, decide_false, W_all, Q_all, L_all, bindP, wipeT, setAll, Nat.reduceSub, Nat.reduceAdd, reduceIte]
            exact this
      · have h2' : ¬ (z.length : Int) ≤ 4 := by omega
        have e : arB z = false := by unfold arB; rw [decide_eq_false h2, Bool.and_false]; rfl
        simp only [h1', h2', v_Seq, v_If, non e, decide_false, W_all, Q_all, L_all, bindP, wipeT, setAll, Nat.reduceSub, Nat.reduceAdd, reduceIte]
        all_goals first | rfl | trivial | exact ⟨rfl, rfl⟩
    · have h1' : ¬ (1 : Int) ≤ (z.length : Int) := by omega
      have e : arB z = false := by unfold arB; rw [decide_eq_false h1]; rfl
      simp only [h1', v_Seq, v_If, non e, decide_false, W_all, Q_all, L_all, bindP, wipeT, setAll, Nat.reduceSub, Nat.reduceAdd, reduceIte]
      all_goals first | rfl | trivial | exact ⟨rfl, rfl⟩
  simp only [v_Seq, v_If, w_If, s1, s2, q1, minus_head, W_all, Q_all, L_all, bindP, wipeT, setAll, Nat.reduceSub, Nat.reduceAdd, reduceIte]
  unfold rsT at main
  by_cases m : w.cps.toList.head? = some 45
  · rw [if_pos m] at main ⊢
    exact main.imp (fun _ _ z => z.elim) fun _ _ z => z
  · rw [if_neg m] at main ⊢
    exact main.imp (fun _ _ z => z.elim) fun _ _ z => z
theorem cut_mid {α : Type} {x y : α} {xs : List α} : cutL (x :: (xs ++ [y])) (some 1) (some (-1)) = xs := by
  unfold cutL
  have e1 : HT.sIx (x :: (xs ++ [y])).length (x :: (xs ++ [y])).length (some (-1)) = xs.length + 1 := by
    show (if (-1 : Int) < 0 then ((-1 : Int) + ((x :: (xs ++ [y])).length : Int)).toNat else min (-1 : Int).toNat (x :: (xs ++ [y])).length) = _
    rw [if_pos (by decide), List.length_cons, List.length_append, List.length_cons, List.length_nil]; omega
  have e2 : HT.sIx (x :: (xs ++ [y])).length 0 (some 1) = 1 := by
    show HT.sIx _ 0 (some ((1 : Nat) : Int)) = 1
    rw [HT.sIx_nat, List.length_cons]; omega
  rw [e1, e2]
  simp
theorem inT_two {lo hi : Int} {z : Str} : (∃ i, inT lo hi (numT z) = .int i) ∨ inT lo hi (numT z) = .non := by
  unfold inT
  cases e : wiB lo hi (numT z) with
  | true =>
    rw [if_pos rfl]
    cases q : numT z with
    | int i => exact .inl ⟨i, rfl⟩
    | _ => rw [q] at e; cases e
  | false => exact .inr rfl
theorem flat_nums {lo hi : Int} : ∀ {zs : List Str}, ∃ vs, flatL ((zs.map fun z => inT lo hi (numT z))) = some vs ∧ inV .non vs = (zs.map fun z => inT lo hi (numT z)).any isNon
  | [] => ⟨[], rfl, rfl⟩
  | z :: zs => by
    obtain ⟨vs, e1, e2⟩ := flat_nums (lo := lo) (hi := hi) (zs := zs)
    rw [List.map_cons]
    rcases inT_two (lo := lo) (hi := hi) (z := z) with ⟨i, e⟩ | e
    · rw [e]
      refine ⟨.int i :: vs, ?_, ?_⟩
      · show (match flatT (.int i), flatL (zs.map fun z => inT lo hi (numT z)) with | some v, some vs => some (v :: vs) | _, _ => none) = _
        rw [e1]; rfl
      · rw [List.any_cons, ← e2]; rfl
    · rw [e]
      refine ⟨.non :: vs, ?_, ?_⟩
      · show (match flatT .non, flatL (zs.map fun z => inT lo hi (numT z)) with | some v, some vs => some (v :: vs) | _, _ => none) = _
        rw [e1]; rfl
      · rw [List.any_cons, ← e2]; rfl
theorem in_nums {zs : List Str} {lo hi : Int} {h : IH} : gIn false .non (.lst (zs.map fun z => inT lo hi (numT z))) h = some (.bl ((zs.map fun z => inT lo hi (numT z)).any isNon)) := by
  obtain ⟨vs, e1, e2⟩ := flat_nums (zs := zs) (lo := lo) (hi := hi)
  unfold gIn
  split
  · rename_i e; cases e
  · show (match flatT T.non, (some (zs.map fun z => inT lo hi (numT z))).bind flatL with | some v, some vs => some (T.bl (false ^^ inV v vs)) | _, _ => none) = _
    rw [Option.bind_some, e1]
    show some (T.bl (false ^^ inV .non vs)) = _
    rw [e2, Bool.false_xor]
theorem inT_num {lo hi : Int} {z : Str} : isNon (inT lo hi (numT z)) = !wiB lo hi (numT z) := by
  unfold inT
  cases e : wiB lo hi (numT z) with
  | true =>
    rw [if_pos rfl]
    cases q : numT z with
    | int i => rfl
    | _ => rw [q] at e; cases e
  | false => rfl
theorem inT_all {lo hi : Int} : ∀ {zs : List Str}, (zs.map fun z => inT lo hi (numT z)).any isNon = !((zs.map numT).all (wiB lo hi))
  | [] => rfl
  | z :: zs => by
    rw [List.map_cons, List.map_cons, List.any_cons, List.all_cons, inT_all, inT_num, Bool.not_and]
theorem inT_id {lo hi : Int} : ∀ {zs : List Str}, (zs.map numT).all (wiB lo hi) = true → (zs.map fun z => inT lo hi (numT z)) = zs.map numT
  | [], _ => rfl
  | z :: zs, h => by
    rw [List.map_cons, List.all_cons, Bool.and_eq_true] at h
    rw [List.map_cons, List.map_cons, inT_id h.2]
    unfold inT
    rw [if_pos h.1]
theorem read_non {ax : Nat} {p : Str} {qs : List Str} (h : itB ax (rawT p qs) = false) : readT ax p qs = .non := by
  unfold readT
  rw [h]; exact if_neg (by decide)
theorem line_read_is {ax : Nat} {qs : List Str} {h : IH} (ok : ∀ w ∈ qs, PyData.strOk w = true ∧ w.length ≤ 1000) (lq : qs.length ≤ 1000) (a2 : 2 ≤ ax) (a3 : ax ≤ 3) : f__law_line_read [.lst ((("line" : Str) :: qs).map T.str), .int (ax : Int)] h = .ok (readT ax "line" qs) h := by
  have hs : (100000 : Nat) ≤ sizeLine := by decide
  refine Ok.eq ?_
  unfold f__law_line_read
  rw [w_runF]
  refine ⟨rfl, ?_⟩
  simp only [v_Seq, v_If, List.length_map, W_all, Q_all, L_all, bindP, wipeT, setAll, Nat.reduceSub, Nat.reduceAdd, reduceIte]
  by_cases c : qs.length = ax + 1
  · obtain ⟨ls, q, rfl⟩ : ∃ ls q, qs = ls ++ [q] := by
      rcases List.eq_nil_or_concat qs with e | ⟨ls, q, e⟩
      · subst e; simp at c
      · exact ⟨ls, q, by simpa using e⟩
    have ll : ls.length = ax := by simpa using c
    have c' : (((ls ++ [q]).length + 1 : Nat) : Int) = (ax : Int) + 2 := by omega
    simp only [c', decide_true, v_Seq, v_If, W_all, Q_all, L_all, bindP, wipeT, setAll, Nat.reduceSub, Nat.reduceAdd, reduceIte]
    unfold f__law_line_read_r3
    have cm : cutL (T.str "line" :: (ls ++ [q]).map T.str) (some 1) (some (-1)) = ls.map T.str := by
      rw [List.map_append]; exact cut_mid
    have al : atI (T.str "line" :: (ls ++ [q]).map T.str) (-1) = some (.str q) := by
      have : T.str ("line" : Str) :: (ls ++ [q]).map T.str = (T.str "line" :: ls.map T.str) ++ [T.str q] := by simp
      rw [this]; exact at_last
    have el : ∀ (a0 a1 a2 a3 : Option T) (h : IH), lcGo (.nm 4) sTrue f__law_line_read_e1 [a0, a1, a2, a3, none] (ls.map T.str) h = .ok (ls.map fun z => inT (-100) 100 (numT z)) h := fun a0 a1 a2 a3 h =>
      lc_maps (τo := fun w => [a0, a1, a2, a3, some (.str w)]) (fun _ _ => rfl) fun w mw => by
        refine Ok.eq ?_
        unfold f__law_line_read_e1
        have k := ok w (by simp [mw])
        have q := fun h : IH => number_read_is (lo := -100) (hi := 100) (h := h) k.1 k.2
        simp only [W_all, Q_all, L_all, bindP, wipeT, setAll, Nat.reduceSub, Nat.reduceAdd, reduceIte, q]
    simp only [v_Seq, v_If, cm, W_all, Q_all, L_all, bindP, wipeT, setAll, Nat.reduceSub, Nat.reduceAdd, reduceIte]
    rw [el, w_ok]
    refine ⟨by rw [List.length_map]; omega, ?_⟩
    unfold f__law_line_read_r2
    have kq := ok q (by simp)
    have nq := fun h : IH => number_read_is (lo := 1) (hi := 20) (h := h) kq.1 kq.2
    simp only [v_Seq, v_If, al, nq, W_all, Q_all, L_all, bindP, wipeT, setAll, Nat.reduceSub, Nat.reduceAdd, reduceIte]
    unfold f__law_line_read_r1
    have i1 := fun h : IH => in_nums (zs := ls) (lo := -100) (hi := 100) (h := h)
    rw [inT_all] at i1
    have i2 : isNon (inT 1 20 (numT q)) = !wiB 1 20 (numT q) := inT_num
    have er : itB ax (rawT "line" (ls ++ [q])) = ((ls.map numT).all (wiB (-100) 100) && (ls.map numT).any nzB && wiB 1 20 (numT q)) := by
      unfold rawT
      rw [if_pos ⟨rfl, by omega⟩]
      have e3 : (ls ++ [q]).length - 1 = (ls.map numT).length := by simp
      have e4 : (ls ++ [q]).getLastD "" = q := by simp
      rw [e3, e4, List.map_append, List.take_left]
      show (decide (("line" : Str) = "line") && (stB ax (.tup (ls.map numT)) && wiB 1 20 (numT q))) = _
      have e5 : stB ax (.tup (ls.map numT)) = ((ls.map numT).all (wiB (-100) 100) && (ls.map numT).any nzB) := by
        show (decide (((ls.map numT).length : Int) = ax) && _) = _
        rw [List.length_map, ll, decide_eq_true rfl, Bool.true_and]
      rw [e5, decide_eq_true rfl, Bool.true_and]
    have eraw : rawT "line" (ls ++ [q]) = .tup [.str "line", .tup (ls.map numT), numT q] := by
      unfold rawT
      rw [if_pos ⟨rfl, by omega⟩]
      simp
    simp only [v_Seq, v_If, i1, W_all, Q_all, L_all, bindP, wipeT, setAll, Nat.reduceSub, Nat.reduceAdd, reduceIte]
    cases w1 : (ls.map numT).all (wiB (-100) 100) with
    | false =>
      rw [w1] at er
      have : readT ax "line" (ls ++ [q]) = .non := read_non (by rw [er]; rfl)
      rw [this]
      simp only [v_Seq, v_If, W_all, Q_all, L_all, bindP, wipeT, setAll, Nat.reduceSub, Nat.reduceAdd, reduceIte]
      all_goals first | rfl | trivial | exact ⟨rfl, rfl⟩
    | true =>
      rw [inT_id w1]
      have ga : ∀ h : IH, gAny (.lst (ls.map numT)) h = some (.bl ((ls.map numT).any nzB)) := fun h => by
        show (truL (ls.map numT)).map (fun is => T.bl (is.any id)) = _
        rw [trus_nz w1, Option.map_some, List.any_map]; rfl
      cases w2 : wiB 1 20 (numT q) with
      | false =>
        have : readT ax "line" (ls ++ [q]) = .non := read_non (by rw [er, w2, Bool.and_false])
        rw [this]
        rw [w2] at i2
        simp only [i2, v_Seq, v_If, W_all, Q_all, L_all, bindP, wipeT, setAll, Nat.reduceSub, Nat.reduceAdd, reduceIte]
        simp
      | true =>
        have ei : inT 1 20 (numT q) = numT q := if_pos w2
        rw [w2, ei] at i2
        simp only [ei, i2, ga, v_Seq, v_If, W_all, Q_all, L_all, bindP, wipeT, setAll, Nat.reduceSub, Nat.reduceAdd, reduceIte]
        cases w3 : (ls.map numT).any nzB with
        | false =>
          have : readT ax "line" (ls ++ [q]) = .non := read_non (by rw [er, w3, Bool.and_false]; rfl)
          rw [this]
          simp
        | true =>
          have : readT ax "line" (ls ++ [q]) = .tup [.str "line", .tup (ls.map numT), numT q] := by
            unfold readT
            rw [er, w1, w2, w3, eraw]; rfl
          rw [this]
          simp; omega
  · have c' : ¬ ((qs.length + 1 : Nat) : Int) = (ax : Int) + 2 := by omega
    have : readT ax "line" qs = .non := by
      refine read_non ?_
      unfold rawT
      by_cases c2 : 2 < qs.length + 1
      · rw [if_pos ⟨rfl, c2⟩]
        show (decide (("line" : Str) = "line") && (stB ax (.tup ((qs.map numT).take (qs.length - 1))) && wiB 1 20 (numT (qs.getLastD "")))) = _
        have e5 : stB ax (.tup ((qs.map numT).take (qs.length - 1))) = false := by
          show (decide ((((qs.map numT).take (qs.length - 1)).length : Int) = ax) && _) = _
          rw [List.length_take, List.length_map, decide_eq_false (by omega)]; rfl
        rw [e5, Bool.false_and, Bool.and_false]
      · rw [if_neg fun z => c2 z.2, if_neg (by rintro ⟨z, _⟩; revert z; decide +kernel), if_neg (by rintro ⟨z, _⟩; revert z; decide +kernel)]; rfl
    rw [this]
    simp only [c', decide_false, v_Seq, v_If, W_all, Q_all, L_all, bindP, wipeT, setAll, Nat.reduceSub, Nat.reduceAdd, reduceIte]
    all_goals first | rfl | trivial | exact ⟨rfl, rfl⟩
theorem one_lt {a b : Nat} : ([a] < [b]) ↔ a < b := by
  rw [List.cons_lt_cons_iff]
  constructor
  · rintro (h | ⟨_, h⟩)
    · exact h
    · exact absurd h (by simp)
  · exact fun h => .inl h
theorem between_az {c : Nat} : (!decide ((⟨#[c]⟩ : Str).cps.toList < ("a" : Str).cps.toList)) = decide (97 ≤ c) := by
  have e : ("a" : Str).cps.toList = [97] := by decide +kernel
  rw [e]
  show (!decide ([c] < [97])) = _
  rw [← decide_not, Bool.eq_iff_iff, decide_eq_true_iff, decide_eq_true_iff, one_lt]
  omega
theorem between_z {c : Nat} : (!decide (("z" : Str).cps.toList < (⟨#[c]⟩ : Str).cps.toList)) = decide (c ≤ 122) := by
  have e : ("z" : Str).cps.toList = [122] := by decide +kernel
  rw [e]
  show (!decide ([122] < [c])) = _
  rw [← decide_not, Bool.eq_iff_iff, decide_eq_true_iff, decide_eq_true_iff, one_lt]
  omega
theorem item_read_is {ax : Nat} {z p : Str} {qs : List Str} {h : IH} (a2 : 2 ≤ ax) (a3 : ax ≤ 3) (lz : z.length ≤ 1000) (hp : Txt.split z " " = p :: qs) (ok : ∀ w ∈ p :: qs, PyData.strOk w = true ∧ w.length ≤ 1000) (lq : qs.length ≤ 1000) : f__law_item_read [.str z, .int (ax : Int)] h = .ok (readT ax p qs) h := by
  have hs : (100000 : Nat) ≤ sizeLine := by decide
  refine Ok.eq ?_
  unfold f__law_item_read
  rw [w_runF]
  refine ⟨rfl, ?_⟩
  have sp : ∀ h : IH, gSplit (.str z) (.str " ") h = some (.lst ((p :: qs).map T.str)) := fun h => by
    rw [q_split (by decide +kernel) (by omega), hp]
  have op := (ok p (by simp)).1
  have qa := fun h : IH => eq_strs (h := h) op (b := "line") (by decide +kernel)
  have qb := fun h : IH => eq_strs (h := h) op (b := "wait") (by decide +kernel)
  have qc := fun h : IH => eq_strs (h := h) op (b := "tool") (by decide +kernel)
  have qd := fun h : IH => eq_strs (h := h) op (b := "mark") (by decide +kernel)
  simp only [w_eSplit, sp, v_Seq, v_If, W_all, Q_all, L_all, bindP, wipeT, setAll, Nat.reduceSub, Nat.reduceAdd, reduceIte]
  unfold f__law_item_read_r6
  simp only [v_Seq, v_If, qa, W_all, Q_all, L_all, bindP, wipeT, setAll, Nat.reduceSub, Nat.reduceAdd, reduceIte]
  by_cases c1 : p = "line"
  · rw [if_pos c1]
    subst c1
    have := line_read_is (h := h) (fun w m => ok w (List.mem_cons_of_mem _ m)) lq a2 a3
    rw [List.map_cons] at this
    rw [this, w_ok]
    exact ⟨rfl, rfl⟩
  rw [if_neg c1]
  have n1 : ¬ (p = "line" ∧ 2 < qs.length + 1) := fun q => c1 q.1
  have nn : itB ax .non = false := rfl
  unfold f__law_item_read_r5
  by_cases c2 : qs.length + 1 = 2
  · obtain ⟨q, rfl⟩ : ∃ q, qs = [q] := by
      match qs, c2 with
      | [q], _ => exact ⟨q, rfl⟩
    have kq := ok q (by simp)
    have rw2 : rawT p [q] = if p = "wait" then .tup [.str "wait", numT q] else if (decide (p = "tool") || decide (p = "mark")) = true then .tup [.str p, .str q] else .non := by
      unfold rawT
      rw [if_neg n1]
      by_cases cw : p = "wait"
      · rw [if_pos ⟨cw, rfl⟩, if_pos cw]; rfl
      · rw [if_neg fun z => cw z.1, if_neg cw]
        by_cases ct : (decide (p = "tool") || decide (p = "mark")) = true
        · rw [if_pos ⟨ct, rfl⟩, if_pos ct]; rfl
        · rw [if_neg fun z => ct z.1, if_neg ct]
    have l2 : (((0 + 1 + 1 : Nat) : Int) = 2) = True := eq_true rfl
    simp only [v_Seq, v_If, List.length_map, l2, decide_true, W_all, Q_all, L_all, bindP, wipeT, setAll, Nat.reduceSub, Nat.reduceAdd, reduceIte]
    unfold f__law_item_read_r4
    have ib : ∀ y, p ≠ "line" → itB ax (.tup [.str p, y]) = if p = "wait" then wiB 1 1000 y else if p = "tool" then toB y else decide (p = "mark") && nmB y := fun y hn => if_neg hn
    by_cases cw : p = "wait"
    · have nq := fun h : IH => number_read_is (lo := 1) (hi := 1000) (h := h) kq.1 kq.2
      have er : readT ax p [q] = if wiB 1 1000 (numT q) = true then .tup [.str "wait", numT q] else .non := by
        have e2 : rawT p [q] = .tup [.str p, numT q] := by rw [rw2, if_pos cw, cw]
        have := ib (numT q) c1
        rw [if_pos cw] at this
        unfold readT
        rw [e2, this, cw]
      rw [er]
      have i2 : isNon (inT 1 1000 (numT q)) = !wiB 1 1000 (numT q) := inT_num
      have qbw : ∀ h : IH, gEq (.str p) (.str "wait") h = some (.bl true) := fun h => by rw [qb, decide_eq_true cw]
      simp only [v_Seq, v_If, w_If, qbw, nq, i2, W_all, Q_all, L_all, bindP, wipeT, setAll, Nat.reduceSub, Nat.reduceAdd, reduceIte]
      cases w2 : wiB 1 1000 (numT q) with
      | true =>
        have ei : inT 1 1000 (numT q) = numT q := if_pos w2
        rw [ei]
        simp; omega
      | false =>
        simp
    · have qbw : ∀ h : IH, gEq (.str p) (.str "wait") h = some (.bl false) := fun h => by rw [qb, decide_eq_false cw]
      simp only [v_Seq, v_If, w_If, qbw, W_all, Q_all, L_all, bindP, wipeT, setAll, Nat.reduceSub, Nat.reduceAdd, reduceIte]
      unfold f__law_item_read_r3
      by_cases ct : p = "tool"
      · have er : readT ax p [q] = if toB (.str q) = true then .tup [.str "tool", .str q] else .non := by
          have e2 : rawT p [q] = .tup [.str p, .str q] := by rw [rw2, if_neg cw, if_pos (by rw [decide_eq_true ct]; rfl)]
          have := ib (.str q) c1
          rw [if_neg cw, if_pos ct] at this
          unfold readT
          rw [e2, this, ct]
        rw [er]
        have si := fun h : IH => in_sides (a := q) (h := h)
        have qcw : ∀ h : IH, gEq (.str p) (.str "tool") h = some (.bl true) := fun h => by rw [qc, decide_eq_true ct]
        simp only [v_Seq, v_If, w_If, qcw, si, W_all, Q_all, L_all, bindP, wipeT, setAll, Nat.reduceSub, Nat.reduceAdd, reduceIte]
        refine ⟨by omega, ?_⟩
        cases toB (.str q) with
        | true => simp; omega
        | false => simp
      · have qcw : ∀ h : IH, gEq (.str p) (.str "tool") h = some (.bl false) := fun h => by rw [qc, decide_eq_false ct]
        simp only [v_Seq, v_If, w_If, qcw, W_all, Q_all, L_all, bindP, wipeT, setAll, Nat.reduceSub, Nat.reduceAdd, reduceIte]
        unfold f__law_item_read_r2
        have er : readT ax p [q] = if (decide (p = "mark") && nmB (.str q)) = true then .tup [.str "mark", .str q] else .non := by
          by_cases cm : p = "mark"
          · have e2 : rawT p [q] = .tup [.str p, .str q] := by rw [rw2, if_neg cw, if_pos (by rw [decide_eq_true cm, Bool.or_true])]
            have := ib (.str q) c1
            rw [if_neg cw, if_neg ct] at this
            unfold readT
            rw [e2, this, cm]
          · have e2 : rawT p [q] = .non := by
              rw [rw2, if_neg cw, decide_eq_false cm, decide_eq_false ct]; rfl
            rw [read_non (by rw [e2]; rfl), decide_eq_false cm, Bool.false_and]; rfl
        rw [er]
        have lc := len_tl q
        have el : ∀ (a0 a1 a2 a3 a4 : Option T) (h : IH), lcGo (.nm 5) f__law_item_read_c1 f__law_item_read_e1 [a0, a1, a2, a3, a4, none] (q.cps.toList.map fun c => T.str ⟨#[c]⟩) h = .ok ((q.cps.toList.filter lowB).map fun c => T.str ⟨#[c]⟩) h := fun a0 a1 a2 a3 a4 h => by
          refine lc_filter (τo := fun c => [a0, a1, a2, a3, a4, some (.str ⟨#[c]⟩)]) (fun _ _ => rfl) (fun c mc => ?_) fun c mc _ => rfl
          unfold f__law_item_read_c1
          have hc := of_strOk kq.1 c mc
          refine Ok.eq ?_
          have g1 : ∀ h : IH, gLeS (.str "a") (.str ⟨#[c]⟩) h = some (.bl (decide (97 ≤ c))) := fun h => by rw [← between_az]; rfl
          have g2 : ∀ h : IH, gLeS (.str ⟨#[c]⟩) (.str "z") h = some (.bl (decide (c ≤ 122))) := fun h => by rw [← between_z]; rfl
          simp only [v_Seq, v_If, w_If, g1, g2, W_all, Q_all, L_all, bindP, wipeT, setAll, Nat.reduceSub, Nat.reduceAdd, reduceIte]
          unfold lowB
          by_cases k1 : 97 ≤ c
          · simp [k1]
          · simp [k1]
        have ln := fun h : IH => q_lenS (a := q) (h := h) (by omega)
        have lf := List.length_filter_le lowB q.cps.toList
        simp only [v_Seq, v_If, w_If, q_gS, W_all, Q_all, L_all, bindP, wipeT, setAll, Nat.reduceSub, Nat.reduceAdd, reduceIte]
        rw [el, w_ok]
        refine ⟨by rw [List.length_map]; omega, ?_⟩
        unfold f__law_item_read_r1
        simp only [v_Seq, v_If, w_If, qd, ln, List.length_map, W_all, Q_all, L_all, bindP, wipeT, setAll, Nat.reduceSub, Nat.reduceAdd, reduceIte]
        have nm : nmB (.str q) = ((decide (1 ≤ q.length) && decide (q.length ≤ 8)) && q.cps.toList.all lowB) := rfl
        by_cases cm : p = "mark"
        · rw [if_pos cm, decide_eq_true cm, Bool.true_and, nm]
          by_cases k1 : 1 ≤ q.length
          · have k1' : (1 : Int) ≤ (q.length : Int) := by omega
            rw [if_pos k1', decide_eq_true k1, Bool.true_and]
            by_cases k2 : q.length ≤ 8
            · have k2' : (q.length : Int) ≤ 8 := by omega
              rw [if_pos k2', decide_eq_true k2, Bool.true_and]
              have kf := List.length_filter_eq_length_iff (p := lowB) (l := q.cps.toList)
              by_cases k3 : (q.cps.toList.filter lowB).length = q.length
              · have k3' : ((q.cps.toList.filter lowB).length : Int) = (q.length : Int) := by omega
                have al : q.cps.toList.all lowB = true := List.all_eq_true.mpr (kf.mp (by omega))
                rw [if_pos k3', al]
                exact ⟨by omega, rfl⟩
              · have k3' : ¬ ((q.cps.toList.filter lowB).length : Int) = (q.length : Int) := by omega
                have al : q.cps.toList.all lowB = false := by
                  cases e : q.cps.toList.all lowB with
                  | false => rfl
                  | true => exact absurd (kf.mpr (List.all_eq_true.mp e)) (by omega)
                rw [if_neg k3', al]; rfl
            · have k2' : ¬ (q.length : Int) ≤ 8 := by omega
              rw [if_neg k2', decide_eq_false k2]; rfl
          · have k1' : ¬ (1 : Int) ≤ (q.length : Int) := by omega
            rw [if_neg k1', decide_eq_false k1]; rfl
        · rw [if_neg cm, decide_eq_false cm]; rfl
  · have c2' : ¬ (((qs.map T.str).length + 1 : Nat) : Int) = 2 := by rw [List.length_map]; omega
    have : readT ax p qs = .non := by
      refine read_non ?_
      unfold rawT
      rw [if_neg n1, if_neg fun z => c2 z.2, if_neg fun z => c2 z.2]; rfl
    rw [this]
    simp only [c2', decide_false, v_Seq, v_If, W_all, Q_all, L_all, bindP, wipeT, setAll, Nat.reduceSub, Nat.reduceAdd, reduceIte]
    all_goals first | rfl | trivial | exact ⟨rfl, rfl⟩
def readR (ax : Nat) (r : Str) : T := match Txt.split r " " with | [] => .non | p :: qs => readT ax p qs
def scanT (ax : Nat) : List Str → List T → T
  | [], f => .tup f
  | r :: rs, f => if isNon (readR ax r) = true ∨ f.length = 20 then .int (f.length : Int) else scanT ax rs (f ++ [readR ax r])
def tdueT (ax : Nat) (z : Str) : T := if z = "" then .tup [] else scanT ax (Txt.split z "\n") []
theorem row_read {ax : Nat} {r : Str} (or : PyData.strOk r = true) (lr : r.length ≤ 999) : ∃ p qs, Txt.split r " " = p :: qs ∧ (∀ w ∈ p :: qs, PyData.strOk w = true ∧ w.length ≤ 1000) ∧ qs.length ≤ 1000 ∧ readR ax r = readT ax p qs := by
  obtain ⟨n, w, o⟩ := split_sp or
  unfold readR
  cases e : Txt.split r " " with
  | nil => exact absurd e n
  | cons p qs =>
    rw [e] at w o
    have l := wt_len (zs := p :: qs)
    rw [List.length_cons] at l
    exact ⟨p, qs, rfl, fun u m => ⟨o u m, by have := wt_mem m; omega⟩, by omega, rfl⟩
theorem readR_tm {ax : Nat} {r : Str} (or : PyData.strOk r = true) (lr : r.length ≤ 999) : tmT 2 (readR ax r) = true := by
  obtain ⟨p, qs, _, ok, lq, e⟩ := row_read (ax := ax) or lr
  rw [e]
  unfold readT
  split
  · exact raw_tm ok (by omega)
  · exact tm_non
theorem scan_kind {ax : Nat} : ∀ {rs : List Str} {f : List T}, (∀ r ∈ rs, PyData.strOk r = true ∧ r.length ≤ 999) → (∀ t ∈ f, tmT 2 t = true) → f.length ≤ 20 → (∃ ts, scanT ax rs f = .tup ts ∧ ts.length ≤ 20 ∧ ∀ t ∈ ts, tmT 2 t = true) ∨ ∃ j : Nat, scanT ax rs f = .int (j : Int)
  | [], f, _, hf, lf => .inl ⟨f, rfl, lf, hf⟩
  | r :: rs, f, hr, hf, lf => by
    by_cases c : isNon (readR ax r) = true ∨ f.length = 20
    · exact .inr ⟨f.length, if_pos c⟩
    · have e : scanT ax (r :: rs) f = scanT ax rs (f ++ [readR ax r]) := if_neg c
      rw [e]
      refine scan_kind (fun u m => hr u (List.mem_cons_of_mem _ m)) (fun t m => ?_) ?_
      · rcases List.mem_append.mp m with m | m
        · exact hf t m
        · rw [List.mem_singleton.mp m]; exact readR_tm (hr r (by simp)).1 (hr r (by simp)).2
      · rw [List.length_append, List.length_cons, List.length_nil]
        have : ¬ f.length = 20 := fun q => c (.inr q)
        omega
theorem rows_ok {z : Str} (oz : PyData.strOk z = true) (lz : z.length ≤ 999) : ∀ r ∈ Txt.split z "\n", PyData.strOk r = true ∧ r.length ≤ 999 := fun r m => by
  obtain ⟨n, w, o⟩ := split_nl oz
  exact ⟨o r m, by have := wt_mem m; omega⟩
theorem tdue_kind {ax : Nat} {z : Str} (oz : PyData.strOk z = true) (lz : z.length ≤ 999) : (∃ ts, tdueT ax z = .tup ts ∧ ts.length ≤ 20 ∧ ∀ t ∈ ts, tmT 2 t = true) ∨ ∃ j : Nat, tdueT ax z = .int (j : Int) := by
  unfold tdueT
  split
  · exact .inl ⟨[], rfl, by decide, fun t m => by cases m⟩
  · exact scan_kind (rows_ok oz lz) (fun t m => by cases m) (by decide)
theorem due_odd {ax : Nat} {t : T} {h : IH} (e : ∀ h : IH, gIsi ["str"] t h = some (.bl false)) : f__law_due [t, .int (ax : Int)] h = .ok (.int 0) h := by
  refine Ok.eq ?_
  unfold f__law_due
  rw [w_runF]
  refine ⟨rfl, ?_⟩
  simp only [v_Seq, v_If, e, W_all, Q_all, L_all, bindP, wipeT, setAll, Nat.reduceSub, Nat.reduceAdd, reduceIte]
  all_goals first | rfl | trivial | exact ⟨rfl, rfl⟩
theorem tdue_is {ax : Nat} {z : Str} {h : IH} (a2 : 2 ≤ ax) (a3 : ax ≤ 3) (oz : PyData.strOk z = true) (lz : z.length ≤ 999) : f__law_due [.str z, .int (ax : Int)] h = .ok (tdueT ax z) h := by
  have hs : (100000 : Nat) ≤ sizeLine := by decide
  have qe := fun h : IH => eq_strs (h := h) oz (b := "") (by decide +kernel)
  refine Ok.eq ?_
  unfold f__law_due
  rw [w_runF]
  refine ⟨rfl, ?_⟩
  simp only [v_Seq, v_If, W_all, Q_all, L_all, bindP, wipeT, setAll, Nat.reduceSub, Nat.reduceAdd, reduceIte]
  unfold f__law_due_r5
  simp only [v_Seq, v_If, W_all, Q_all, L_all, bindP, wipeT, setAll, Nat.reduceSub, Nat.reduceAdd, reduceIte]
  refine ⟨Nat.zero_le _, ?_⟩
  unfold f__law_due_r4
  rw [v_Seq, v_If]
  simp only [qe, W_all, Q_all, L_all, bindP, wipeT, setAll, Nat.reduceSub, Nat.reduceAdd, reduceIte]
  by_cases z0 : z = ""
  · have : tdueT ax z = .tup [] := if_pos z0
    rw [if_pos z0, this]
    simp only [v_Ret, W_all, Q_all, L_all, bindP, wipeT, setAll, Nat.reduceSub, Nat.reduceAdd, reduceIte]
    all_goals first | rfl | trivial | exact ⟨rfl, rfl⟩ | exact ⟨Nat.zero_le _, rfl⟩
  rw [if_neg z0]
  have eR : tdueT ax z = scanT ax (Txt.split z "\n") [] := if_neg z0
  have ro := rows_ok oz lz
  have sp : ∀ h : IH, gSplit (.str z) (.str "\n") h = some (.lst ((Txt.split z "\n").map T.str)) := fun h => q_split (by decide +kernel) (by omega)
  generalize tdueT ax z = R at *
  generalize Txt.split z "\n" = rows at *
  unfold f__law_due_r3
  rw [v_Seq, v_For]
  simp only [w_eSplit, sp, W_all, Q_all, L_all, bindP, wipeT, setAll, Nat.reduceSub, Nat.reduceAdd, reduceIte]
  apply for_inv (fun us τ h' => h' = h ∧ ∃ rows found y3 y4, us = rows.map T.str ∧ (∀ r ∈ rows, PyData.strOk r = true ∧ r.length ≤ 999) ∧ found.length ≤ 20 ∧ scanT ax rows found = R ∧ τ = [some (.str z), some (.int (ax : Int)), some (.lst found), y3, y4])
  case h0 => exact ⟨rfl, rows, [], _, _, rfl, ro, by decide, eR.symm, rfl⟩
  case fin =>
    rintro τ h' ⟨rfl, rows', found, y3, y4, eu, ro', lf, es, rfl⟩
    cases rows' with
    | nil =>
      simp only [v_Ret, W_all, Q_all, L_all, bindP, wipeT, setAll, Nat.reduceSub, Nat.reduceAdd, reduceIte]
      have : T.tup found = R := es
      first | exact ⟨this, rfl⟩ | exact this
    | cons _ _ => cases eu
  rintro t us τ h' ⟨rfl, rows', found, y3, y4, eu, ro', lf, es, rfl⟩
  cases rows' with
  | nil => cases eu
  | cons r rows' =>
    obtain ⟨rfl, rfl⟩ := List.cons.inj eu
    have okr := ro' r (by simp)
    obtain ⟨p, qs, hp, okw, lq, er⟩ := row_read (ax := ax) okr.1 okr.2
    have ir := fun h : IH => item_read_is (h := h) a2 a3 (by omega) hp okw lq
    rw [← er] at ir
    refine ⟨_, rfl, ?_⟩
    unfold f__law_due_b1
    simp only [v_Seq, v_If, ir, W_all, Q_all, L_all, bindP, wipeT, setAll, Nat.reduceSub, Nat.reduceAdd, reduceIte]
    unfold f__law_due_r2
    simp only [v_Seq, v_If, W_all, Q_all, L_all, bindP, wipeT, setAll, Nat.reduceSub, Nat.reduceAdd, reduceIte]
    have f0 : (false ^^ isNon (readR ax r)) = isNon (readR ax r) := Bool.false_xor _
    have e2 : scanT ax (r :: rows') found = if isNon (readR ax r) = true ∨ found.length = 20 then .int (found.length : Int) else scanT ax rows' (found ++ [readR ax r]) := rfl
    rw [e2] at es
    rw [f0]
    cases c1 : isNon (readR ax r) with
    | true =>
      rw [if_pos (.inl c1)] at es
      rw [if_pos rfl]
      first | exact ⟨es, rfl⟩ | exact es
    | false =>
      rw [if_neg (by decide)]
      by_cases c2 : found.length = 20
      · have c2' : (found.length : Int) = 20 := by omega
        rw [if_pos (.inr c2)] at es
        rw [if_pos c2']
        first | exact ⟨es, rfl⟩ | exact es
      · have c2' : ¬ (found.length : Int) = 20 := by omega
        rw [if_neg (fun q => q.elim (fun q => by rw [c1] at q; cases q) c2)] at es
        rw [if_neg c2']
        unfold f__law_due_r1
        simp only [v_Seq, v_If, W_all, Q_all, L_all, bindP, wipeT, setAll, Nat.reduceSub, Nat.reduceAdd, reduceIte]
        exact ⟨by omega, rows', _, _, _, rfl, fun u m => ro' u (List.mem_cons_of_mem _ m), by rw [List.length_append, List.length_cons, List.length_nil]; omega, es, rfl⟩
theorem within_is {a lo hi : Int} {h : IH} : f_is_within [.int a, .int lo, .int hi] h = .ok (.bl (decide (lo ≤ a ∧ a ≤ hi))) h := by
  refine Ok.eq ?_
  unfold f_is_within
  rw [w_runF]
  refine ⟨rfl, ?_⟩
  have e : ∀ h : IH, f_is_whole [.int a] h = .ok (.bl true) h := fun h => rfl
  simp only [W_all, Q_all, L_all, bindP, wipeT, setAll, Nat.reduceSub, Nat.reduceAdd, reduceIte, e]
  by_cases z : lo ≤ a
  · rw [if_pos z]
    by_cases y : a ≤ hi
    · simp [z, y]
    · simp [z, y]
  · rw [if_neg z]
    simp [z]
theorem within_tm {k : Nat} {t : T} {lo hi : Int} {h : IH} (e : tmT k t = true) : f_is_within [t, .int lo, .int hi] h = .ok (.bl (wiB lo hi t)) h := by
  cases t with
  | box n => cases k <;> cases e
  | int a => exact within_is
  | _ => rfl
theorem is_name_tm {k : Nat} {t : T} {h : IH} (e : tmT k t = true) : f_is_name [t] h = .ok (.bl (nmB t)) h := by
  have hs : (100000 : Nat) ≤ sizeLine := by decide
  refine Ok.eq ?_
  unfold f_is_name
  rw [w_runF]
  refine ⟨rfl, ?_⟩
  have is := fun h : IH => isi_str (h := h) e
  cases t with
  | str z =>
    obtain ⟨oz, lz⟩ := tm_str.mp e
    have ln := fun h : IH => q_lenS (a := z) (h := h) (by omega)
    have el : ∀ (a0 : Option T) (h : IH), lcGo (.nm 1) sTrue f_is_name_e1 [a0, none] (z.cps.toList.map fun c => T.str ⟨#[c]⟩) h = .ok ((z.cps.toList.map lowB).map T.bl) h := fun a0 h => by
      rw [List.map_map]
      refine lc_maps (τo := fun c => [a0, some (.str ⟨#[c]⟩)]) (fun _ _ => rfl) fun c mc => ?_
      refine Ok.eq ?_
      unfold f_is_name_e1
      simp only [W_all, Q_all, L_all, bindP, wipeT, setAll, Nat.reduceSub, Nat.reduceAdd, reduceIte, c_SMALL, in_small]
      all_goals first | rfl | trivial | exact ⟨rfl, rfl⟩
    have lc : z.cps.toList.length = z.length := by show z.cps.toList.length = z.cps.size; simp
    have nb : nmB (.str z) = ((decide (1 ≤ z.length) && decide (z.length ≤ 8)) && (z.cps.toList.map lowB).all id) := by rw [List.all_map]; rfl
    rw [nb]
    simp only [is, isStr, ln, c_MOST_LETTERS, W_all, Q_all, L_all, bindP, wipeT, setAll, Nat.reduceSub, Nat.reduceAdd, reduceIte]
    have d1 : decide ((1 : Int) ≤ (z.length : Int)) = decide (1 ≤ z.length) := by rw [Bool.eq_iff_iff, decide_eq_true_iff, decide_eq_true_iff]; omega
    have d2 : decide ((z.length : Int) ≤ (8 : Int)) = decide (z.length ≤ 8) := by rw [Bool.eq_iff_iff, decide_eq_true_iff, decide_eq_true_iff]; omega
    by_cases h1 : 1 ≤ z.length
    · have h1' : (1 : Int) ≤ (z.length : Int) := by omega
      by_cases h2 : z.length ≤ 8
      · have h2' : (z.length : Int) ≤ 8 := by omega
        simp only [v_Seq, v_If, h1, h2, h1', h2', decide_true, Bool.true_and, q_gS, W_all, Q_all, L_all, bindP, wipeT, setAll, Nat.reduceSub, Nat.reduceAdd, reduceIte]
        rw [el, w_ok]
        refine ⟨by rw [List.length_map]; omega, _, q_allB, ?_⟩
        all_goals first | rfl | trivial | exact ⟨rfl, rfl⟩
      · have h2' : ¬ (z.length : Int) ≤ 8 := by omega
        simp only [v_Seq, v_If, h1, h2, h1', h2', decide_true, decide_false, Bool.true_and, Bool.false_and, W_all, Q_all, L_all, bindP, wipeT, setAll, Nat.reduceSub, Nat.reduceAdd, reduceIte]
    · have h1' : ¬ (1 : Int) ≤ (z.length : Int) := by omega
      simp only [v_Seq, v_If, h1, h1', decide_false, Bool.false_and, W_all, Q_all, L_all, bindP, wipeT, setAll, Nat.reduceSub, Nat.reduceAdd, reduceIte]
  | _ =>
    simp only [v_Seq, v_If, W_all, Q_all, L_all, bindP, wipeT, setAll, Nat.reduceSub, Nat.reduceAdd, reduceIte, is, isStr]
    all_goals first | rfl | trivial | exact ⟨rfl, rfl⟩
theorem nz_map : ∀ {ts : List T}, ts.all (wiB (-100) 100) = true → ∀ {pt : Pat} {f : SE} {τw : Ev} {τo : T → Ev} {h : IH}, (∀ t ∈ ts, bindP pt t τw = some (τo t)) → (∀ t ∈ ts, ∀ i, t = .int i → f (τo t) h = .ok (.bl (i != 0)) h) → lcGo pt sTrue f τw ts h = .ok ((ts.map nzB).map T.bl) h := fun {ts} e {pt f τw τo h} b k => by
  have := lc_maps (pt := pt) (f := f) (h := h) (τw := τw) (xs := ts) (u := fun t => t) (g := fun t => T.bl (nzB t)) (τo := τo) b fun t mt => by
    have w := (List.all_eq_true.mp e) t mt
    cases t with
    | int i => exact k _ mt i rfl
    | _ => cases w
  rw [List.map_id'] at this
  rw [List.map_map]
  exact this
theorem are_steps_tm {rs : List Int} {a b c d : Int} {k : Nat} {t : T} {h : IH} (e : tmT (k + 1) t = true) : f_are_steps [machT rs a b c d, t] h = .ok (.bl (stB rs.length t)) h := by
  have hs : (100000 : Nat) ≤ sizeLine := by decide
  refine Ok.eq ?_
  unfold f_are_steps
  rw [w_runF]
  refine ⟨rfl, ?_⟩
  have it := fun h : IH => isi_tup (h := h) e
  cases t with
  | tup ts =>
    obtain ⟨lt, et⟩ := tm_tup.mp e
    have el : ∀ (a0 a1 : Option T) (h : IH), lcGo (.nm 2) sTrue f_are_steps_e2 [a0, a1, none] ts h = .ok ((ts.map (wiB (-100) 100)).map T.bl) h := fun a0 a1 h => by
      have := lc_maps (pt := .nm 2) (f := f_are_steps_e2) (h := h) (τw := [a0, a1, none]) (xs := ts) (u := fun t => t) (g := fun t => T.bl (wiB (-100) 100 t)) (τo := fun t => [a0, a1, some t]) (fun _ _ => rfl) fun t mt => by
        refine Ok.eq ?_
        unfold f_are_steps_e2
        have w := fun h : IH => within_tm (lo := -100) (hi := 100) (h := h) (et t mt)
        simp only [W_all, Q_all, L_all, bindP, wipeT, setAll, Nat.reduceSub, Nat.reduceAdd, reduceIte, c_MOST_STEPS, w]
      rw [List.map_id'] at this
      rw [List.map_map]
      exact this
    have st : stB rs.length (.tup ts) = (decide ((ts.length : Int) = rs.length) && ((ts.map (wiB (-100) 100)).all id && (ts.map nzB).any id)) := by
      rw [all_map, List.any_map]; rfl
    rw [st]
    simp only [v_Seq, v_If, W_all, Q_all, L_all, bindP, wipeT, setAll, Nat.reduceSub, Nat.reduceAdd, reduceIte, it, isTup, List.length_map]
    by_cases ll : (ts.length : Int) = (rs.length : Int)
    · simp only [v_Seq, v_If, W_all, Q_all, L_all, bindP, wipeT, setAll, Nat.reduceSub, Nat.reduceAdd, reduceIte, ll, decide_true, Bool.true_and]
      rw [el, w_ok]
      refine ⟨by omega, _, q_allB, ?_⟩
      cases ea : (ts.map (wiB (-100) 100)).all id with
      | false =>
        simp only [W_all, Q_all, L_all, bindP, wipeT, setAll, Nat.reduceSub, Nat.reduceAdd, reduceIte, Bool.false_and]
        all_goals first | trivial | exact ⟨false, rfl, rfl, rfl⟩
      | true =>
        rw [all_map] at ea
        have en : ∀ (a0 a1 : Option T) (h : IH), lcGo (.nm 2) sTrue f_are_steps_e1 [a0, a1, none] ts h = .ok ((ts.map nzB).map T.bl) h := fun a0 a1 h =>
          nz_map ea (τo := fun t => [a0, a1, some t]) (fun _ _ => rfl) fun t mt i ei => by
            subst ei
            refine Ok.eq ?_
            unfold f_are_steps_e1
            simp only [W_all, Q_all, L_all, bindP, wipeT, setAll, Nat.reduceSub, Nat.reduceAdd, reduceIte]
            have : (i != 0) = !decide (i = 0) := by
              by_cases z : i = 0
              · subst z; rfl
              · rw [decide_eq_false z]; simpa using z
            rw [this]
        refine ⟨true, rfl, ?_⟩
        simp only [W_all, Q_all, L_all, bindP, wipeT, setAll, Nat.reduceSub, Nat.reduceAdd, reduceIte, Bool.true_and]
        rw [en, w_ok]
        refine ⟨by omega, _, q_anyB, ?_⟩
        all_goals first | trivial | exact ⟨rfl, rfl⟩
    · simp only [v_Seq, v_If, W_all, Q_all, L_all, bindP, wipeT, setAll, Nat.reduceSub, Nat.reduceAdd, reduceIte, ll, decide_false, Bool.false_and]
      all_goals first | trivial | exact ⟨rfl, rfl⟩
  | _ =>
    simp only [v_Seq, v_If, W_all, Q_all, L_all, bindP, wipeT, setAll, Nat.reduceSub, Nat.reduceAdd, reduceIte, it, isTup]
    all_goals first | rfl | trivial | exact ⟨rfl, rfl⟩
theorem is_speed_tm {k : Nat} {t : T} {h : IH} (e : tmT k t = true) : f_is_speed [t] h = .ok (.bl (wiB 1 20 t)) h := by
  refine Ok.eq ?_
  unfold f_is_speed
  rw [w_runF]
  refine ⟨rfl, ?_⟩
  have w := fun h : IH => within_tm (lo := 1) (hi := 20) (h := h) e
  simp only [W_all, Q_all, L_all, bindP, wipeT, setAll, Nat.reduceSub, Nat.reduceAdd, reduceIte, c_MOST_SPEED, w]
theorem is_item_tm {rs : List Int} {a b c d : Int} {k : Nat} {t : T} {h : IH} (e : tmT (k + 2) t = true) : f_is_item [machT rs a b c d, t] h = .ok (.bl (itB rs.length t)) h := by
  have hs : (100000 : Nat) ≤ sizeLine := by decide
  refine Ok.eq ?_
  unfold f_is_item
  rw [w_runF]
  refine ⟨rfl, ?_⟩
  have it := fun h : IH => isi_tup (h := h) e
  cases t with
  | tup ts =>
    obtain ⟨lt, et⟩ := tm_tup.mp e
    match ts, et, lt with
    | [], _, _ =>
      simp only [v_Seq, v_If, W_all, Q_all, L_all, bindP, wipeT, setAll, Nat.reduceSub, Nat.reduceAdd, reduceIte, it, isTup]
      rfl
    | [x], _, _ =>
      have c1 : ((2 : Int) ≤ ((1 : Nat) : Int)) = False := eq_false (by decide)
      simp only [v_Seq, v_If, W_all, Q_all, L_all, bindP, wipeT, setAll, Nat.reduceSub, Nat.reduceAdd, reduceIte, it, isTup, c1, decide_false, itB_1]
      all_goals first | rfl | trivial | exact ⟨rfl, rfl⟩
    | [x, y], et, _ =>
      have tx := et x (by simp)
      have ty := et y (by simp)
      have sx := fun h : IH => isi_str (h := h) tx
      have sy := fun h : IH => isi_str (h := h) ty
      have c2 : ((2 : Int) ≤ ((2 : Nat) : Int)) = True := eq_true (by decide)
      have c2b : ((((2 : Nat) : Int)) ≤ 3) = True := eq_true (by decide)
      have c2c : (((2 : Nat) : Int) = 3) = False := eq_false (by decide)
      simp only [v_Seq, v_If, c2, c2b, it, isTup, sx, W_all, Q_all, L_all, bindP, wipeT, setAll, Nat.reduceSub, Nat.reduceAdd, reduceIte, decide_true, decide_false]
      cases x with
      | str w =>
        obtain ⟨ow, lw⟩ := tm_str.mp tx
        have q1 := fun h : IH => eq_strs (h := h) ow (b := "line") (by decide +kernel)
        have q2 := fun h : IH => eq_strs (h := h) ow (b := "wait") (by decide +kernel)
        have q3 := fun h : IH => eq_strs (h := h) ow (b := "tool") (by decide +kernel)
        have q4 := fun h : IH => eq_strs (h := h) ow (b := "mark") (by decide +kernel)
        have e2 : itB rs.length (.tup [.str w, y]) = if w = "line" then false else if w = "wait" then wiB 1 1000 y else if w = "tool" then toB y else decide (w = "mark") && nmB y := rfl
        rw [e2]
        simp only [isStr, v_Seq, v_If, W_all, Q_all, L_all, bindP, wipeT, setAll, Nat.reduceSub, Nat.reduceAdd, reduceIte]
        unfold f_is_item_r4
        by_cases h1 : w = "line"
        · rw [if_pos h1]
          have d1 := decide_eq_true h1
          simp only [v_Seq, v_If, q1, d1, c2c, decide_false, W_all, Q_all, L_all, bindP, wipeT, setAll, Nat.reduceSub, Nat.reduceAdd, reduceIte]
          all_goals first | rfl | trivial | exact ⟨rfl, rfl⟩
        · rw [if_neg h1]
          have d1 := decide_eq_false h1
          simp only [v_Seq, v_If, q1, d1, W_all, Q_all, L_all, bindP, wipeT, setAll, Nat.reduceSub, Nat.reduceAdd, reduceIte]
          unfold f_is_item_r3
          simp only [v_Seq, v_If, c2c, decide_true, decide_false, W_all, Q_all, L_all, bindP, wipeT, setAll, Nat.reduceSub, Nat.reduceAdd, reduceIte]
          unfold f_is_item_r2
          by_cases h2 : w = "wait"
          · rw [if_pos h2]
            have d2 := decide_eq_true h2
            have wy := fun h : IH => within_tm (lo := 1) (hi := 1000) (h := h) ty
            simp only [v_Seq, v_If, q2, d2, c_MOST_WAIT, c_SIDES, wy, W_all, Q_all, L_all, bindP, wipeT, setAll, Nat.reduceSub, Nat.reduceAdd, reduceIte]
          · rw [if_neg h2]
            have d2 := decide_eq_false h2
            simp only [v_Seq, v_If, q2, d2, W_all, Q_all, L_all, bindP, wipeT, setAll, Nat.reduceSub, Nat.reduceAdd, reduceIte]
            unfold f_is_item_r1
            by_cases h3 : w = "tool"
            · rw [if_pos h3]
              have d3 := decide_eq_true h3
              simp only [v_Seq, v_If, q3, d3, sy, W_all, Q_all, L_all, bindP, wipeT, setAll, Nat.reduceSub, Nat.reduceAdd, reduceIte]
              cases y with
              | str v =>
                simp only [isStr, c_SIDES, in_sidesT, W_all, Q_all, L_all, bindP, wipeT, setAll, Nat.reduceSub, Nat.reduceAdd, reduceIte]
                all_goals first | rfl | trivial | exact ⟨rfl, rfl⟩
              | _ =>
                simp only [isStr, toB, W_all, Q_all, L_all, bindP, wipeT, setAll, Nat.reduceSub, Nat.reduceAdd, reduceIte]
            · rw [if_neg h3]
              have d3 := decide_eq_false h3
              have ny := fun h : IH => is_name_tm (h := h) ty
              by_cases h4 : w = "mark"
              · have d4 := decide_eq_true h4
                simp only [v_Seq, v_If, q3, d3, q4, d4, ny, Bool.true_and, W_all, Q_all, L_all, bindP, wipeT, setAll, Nat.reduceSub, Nat.reduceAdd, reduceIte]
              · have d4 := decide_eq_false h4
                simp only [v_Seq, v_If, q3, d3, q4, d4, Bool.false_and, W_all, Q_all, L_all, bindP, wipeT, setAll, Nat.reduceSub, Nat.reduceAdd, reduceIte]
      | _ =>
        rw [itB_n2 (by rfl)]
        simp only [isStr, v_Seq, v_If, W_all, Q_all, L_all, bindP, wipeT, setAll, Nat.reduceSub, Nat.reduceAdd, reduceIte]
        all_goals first | rfl | trivial | exact ⟨rfl, rfl⟩
    | [x, y, z], et, _ =>
      have tx := et x (by simp)
      have ty := et y (by simp)
      have tz := et z (by simp)
      have sx := fun h : IH => isi_str (h := h) tx
      have c3 : ((2 : Int) ≤ ((3 : Nat) : Int)) = True := eq_true (by decide)
      have c3b : ((((3 : Nat) : Int)) ≤ 3) = True := eq_true (by decide)
      have c3c : (((3 : Nat) : Int) = 3) = True := eq_true rfl
      simp only [v_Seq, v_If, c3, c3b, it, isTup, sx, W_all, Q_all, L_all, bindP, wipeT, setAll, Nat.reduceSub, Nat.reduceAdd, reduceIte, decide_true, decide_false]
      cases x with
      | str w =>
        obtain ⟨ow, lw⟩ := tm_str.mp tx
        have q1 := fun h : IH => eq_strs (h := h) ow (b := "line") (by decide +kernel)
        have e3 : itB rs.length (.tup [.str w, y, z]) = (decide (w = "line") && (stB rs.length y && wiB 1 20 z)) := rfl
        rw [e3]
        simp only [isStr, v_Seq, v_If, W_all, Q_all, L_all, bindP, wipeT, setAll, Nat.reduceSub, Nat.reduceAdd, reduceIte]
        unfold f_is_item_r4
        by_cases h1 : w = "line"
        · have d1 := decide_eq_true h1
          have sy := fun h : IH => are_steps_tm (rs := rs) (a := a) (b := b) (c := c) (d := d) (h := h) ty
          have sz := fun h : IH => is_speed_tm (h := h) tz
          simp only [v_Seq, v_If, q1, d1, c3c, decide_true, sy, Bool.true_and, W_all, Q_all, L_all, bindP, wipeT, setAll, Nat.reduceSub, Nat.reduceAdd, reduceIte]
          cases stB rs.length y with
          | true => simp only [v_Seq, v_If, sz, Bool.true_and, W_all, Q_all, L_all, bindP, wipeT, setAll, Nat.reduceSub, Nat.reduceAdd, reduceIte]
          | false => simp only [v_Seq, v_If, Bool.false_and, W_all, Q_all, L_all, bindP, wipeT, setAll, Nat.reduceSub, Nat.reduceAdd, reduceIte]
        · have d1 := decide_eq_false h1
          simp only [v_Seq, v_If, q1, d1, Bool.false_and, W_all, Q_all, L_all, bindP, wipeT, setAll, Nat.reduceSub, Nat.reduceAdd, reduceIte]
          unfold f_is_item_r3
          simp only [v_Seq, v_If, c3c, decide_true, decide_false, W_all, Q_all, L_all, bindP, wipeT, setAll, Nat.reduceSub, Nat.reduceAdd, reduceIte]
      | _ =>
        rw [itB_n3 (by rfl)]
        simp only [isStr, v_Seq, v_If, W_all, Q_all, L_all, bindP, wipeT, setAll, Nat.reduceSub, Nat.reduceAdd, reduceIte]
        all_goals first | rfl | trivial | exact ⟨rfl, rfl⟩
    | x :: y :: z :: w :: us, et, lt =>
      have c4 : ((2 : Int) ≤ ((us.length + 1 + 1 + 1 + 1 : Nat) : Int)) = True := eq_true (by omega)
      have c4b : ((((us.length + 1 + 1 + 1 + 1 : Nat) : Int)) ≤ 3) = False := eq_false (by omega)
      simp only [v_Seq, v_If, c4, c4b, it, isTup, itB_4, W_all, Q_all, L_all, bindP, wipeT, setAll, Nat.reduceSub, Nat.reduceAdd, reduceIte, decide_true, decide_false]
      all_goals first | rfl | trivial | exact ⟨rfl, rfl⟩
  | _ =>
    simp only [v_Seq, v_If, W_all, Q_all, L_all, bindP, wipeT, setAll, Nat.reduceSub, Nat.reduceAdd, reduceIte, it, isTup]
    all_goals first | rfl | trivial | exact ⟨rfl, rfl⟩
theorem are_figures_is {z : Str} {h : IH} (oz : PyData.strOk z = true) (lz : z.length ≤ 1000) : f_are_figures [.str z] h = .ok (.bl (arF z)) h := by
  have hs : (100000 : Nat) ≤ sizeLine := by decide
  refine Ok.eq ?_
  unfold f_are_figures
  rw [w_runF]
  refine ⟨rfl, ?_⟩
  have ln := fun h : IH => q_lenS (a := z) (h := h) (by omega)
  have el : ∀ (a0 : Option T) (h : IH), lcGo (.nm 1) sTrue f_are_figures_e1 [a0, none] (z.cps.toList.map fun c => T.str ⟨#[c]⟩) h = .ok ((z.cps.toList.map fun c => !figB c).map T.bl) h := fun a0 h => by
    rw [List.map_map]
    refine lc_maps (τo := fun c => [a0, some (.str ⟨#[c]⟩)]) (fun _ _ => rfl) fun c mc => ?_
    refine Ok.eq ?_
    unfold f_are_figures_e1
    simp only [W_all, Q_all, L_all, bindP, wipeT, setAll, Nat.reduceSub, Nat.reduceAdd, reduceIte, c_FIGURES, notin_figs]
    all_goals first | rfl | trivial | exact ⟨rfl, rfl⟩
  have lc := len_tl z
  simp only [ln, c_MOST_FIGURES, v_Seq, v_If, W_all, Q_all, L_all, bindP, wipeT, setAll, Nat.reduceSub, Nat.reduceAdd, reduceIte]
  unfold arF
  by_cases h1 : 1 ≤ z.length
  · have h1' : (1 : Int) ≤ (z.length : Int) := by omega
    by_cases h2 : z.length ≤ 4
    · have h2' : (z.length : Int) ≤ 4 := by omega
      simp only [v_Seq, v_If, h1, h2, h1', h2', decide_true, Bool.true_and, q_gS, W_all, Q_all, L_all, bindP, wipeT, setAll, Nat.reduceSub, Nat.reduceAdd, reduceIte]
      rw [el, w_ok]
      refine ⟨by rw [List.length_map]; omega, _, q_anyB, ?_⟩
      rw [all_not]
      cases ea : z.cps.toList.all figB with
      | false =>
        simp only [v_Seq, v_If, Bool.false_and, W_all, Q_all, L_all, bindP, wipeT, setAll, Nat.reduceSub, Nat.reduceAdd, reduceIte]
        all_goals first | rfl | trivial | exact ⟨rfl, rfl⟩
      | true =>
        obtain ⟨c, cs, ec⟩ : ∃ c cs, z.cps.toList = c :: cs := by
          cases q : z.cps.toList with
          | nil => rw [q] at lc; rw [← lc] at h1; exact absurd h1 (by decide)
          | cons c cs => exact ⟨c, cs, rfl⟩
        have hc : c < 1114112 := by
          have := List.all_eq_true.mp ea c (by rw [ec]; simp)
          unfold figB at this
          rw [Bool.and_eq_true, decide_eq_true_iff, decide_eq_true_iff] at this
          omega
        have oc : PyData.strOk (⟨#[c]⟩ : Str) = true := by
          show (#[c].all fun x => decide (x < 1114112)) = true
          simp [hc]
        have q1 := fun h : IH => ne_of_eq (eq_strs (h := h) oc (b := "0") (by decide +kernel))
        have q2 := fun h : IH => eq_strs (h := h) oz (b := "0") (by decide +kernel)
        have ix : ∀ h : IH, gIx (.str z) (.int 0) h = some (.str ⟨#[c]⟩) := fun h => by
          rw [q_ixS, if_pos (by omega), ec]
          show (atI (c :: cs) ((0 : Nat) : Int)).map _ = _
          rw [at_nat]; rfl
        have hh : decide (z.cps.toList.head? = some 48) = decide (c = 48) := by rw [ec]; simp
        rw [hh]
        simp only [v_Seq, v_If, Bool.true_and, ix, q1, q2, one_sign, W_all, Q_all, L_all, bindP, wipeT, setAll, Nat.reduceSub, Nat.reduceAdd, reduceIte]
        by_cases hz : c = 48
        · simp only [hz, decide_true, Bool.not_true, Bool.false_or, v_Seq, v_If, q2, W_all, Q_all, L_all, bindP, wipeT, setAll, Nat.reduceSub, Nat.reduceAdd, reduceIte]
          all_goals first | rfl | trivial | exact ⟨rfl, rfl⟩
        · simp only [hz, decide_false, Bool.not_false, Bool.true_or, v_Seq, v_If, W_all, Q_all, L_all, bindP, wipeT, setAll, Nat.reduceSub, Nat.reduceAdd, reduceIte]
          all_goals first | rfl | trivial | exact ⟨rfl, rfl⟩
    · have h2' : ¬ (z.length : Int) ≤ 4 := by omega
      simp only [v_Seq, v_If, h1, h2, h1', h2', decide_true, decide_false, Bool.true_and, Bool.false_and, Bool.and_false, W_all, Q_all, L_all, bindP, wipeT, setAll, Nat.reduceSub, Nat.reduceAdd, reduceIte]
      all_goals first | rfl | trivial | exact ⟨rfl, rfl⟩
  · have h1' : ¬ (1 : Int) ≤ (z.length : Int) := by omega
    simp only [v_Seq, v_If, h1, h1', decide_false, Bool.false_and, W_all, Q_all, L_all, bindP, wipeT, setAll, Nat.reduceSub, Nat.reduceAdd, reduceIte]
    all_goals first | rfl | trivial | exact ⟨rfl, rfl⟩
theorem number_of_is {z : Str} {h : IH} (oz : PyData.strOk z = true) (lz : z.length ≤ 1000) : f_number_of [.str z] h = .ok (numT z) h := by
  have hs : (100000 : Nat) ≤ sizeLine := by decide
  refine Ok.eq ?_
  unfold f_number_of
  rw [w_runF]
  refine ⟨rfl, ?_⟩
  have s1 : ∀ h : IH, gSlT (.str z) none (some 1) h = some (.str ⟨(z.cps.toList.take 1).toArray⟩) := fun h => by
    rw [q_slS (by omega), show cutL z.cps.toList none (some 1) = z.cps.toList.take 1 from cut_to (k := 1)]
  have s2 : ∀ h : IH, gSlT (.str z) (some 1) none h = some (.str (tlS z)) := fun h => by
    rw [q_slS (by omega), show cutL z.cps.toList (some 1) none = z.cps.toList.drop 1 from cut_from (k := 1)]; rfl
  have oc := of_strOk oz
  have o1 : PyData.strOk (⟨(z.cps.toList.take 1).toArray⟩ : Str) = true := strOk_of fun c m => oc c (List.mem_of_mem_take m)
  have o2 : PyData.strOk (tlS z) = true := strOk_of fun c m => oc c (List.mem_of_mem_drop m)
  have l2 : (tlS z).length ≤ 1000 := by
    rw [← len_tl]
    show (z.cps.toList.drop 1).length ≤ 1000
    rw [List.length_drop, len_tl]; omega
  have q1 := fun h : IH => eq_strs (h := h) o1 (b := "-") (by decide +kernel)
  have q2 := fun h : IH => ne_of_eq (eq_strs (h := h) oz (b := "-0") (by decide +kernel))
  have q3 := fun h : IH => are_figures_is (h := h) o2 l2
  have q4 := fun h : IH => are_figures_is (h := h) oz lz
  have rest : OkS (f_number_of_r1 [some (.str z)] h) (fun τ' h' => (if arF z = true then T.int (NumText.digitsVal z.cps.toList : Int) else .non) = .non ∧ h' = h) (fun t h' => t = (if arF z = true then T.int (NumText.digitsVal z.cps.toList : Int) else .non) ∧ h' = h) := by
    unfold f_number_of_r1
    simp only [v_Seq, v_If, q4, W_all, Q_all, L_all, bindP, wipeT, setAll, Nat.reduceSub, Nat.reduceAdd, reduceIte]
    cases ea : arF z with
    | true =>
      simp only [v_Seq, v_If, int_fig ea, W_all, Q_all, L_all, bindP, wipeT, setAll, Nat.reduceSub, Nat.reduceAdd, reduceIte]
      all_goals first | rfl | trivial | exact ⟨rfl, rfl⟩
    | false =>
      simp only [v_Seq, v_If, W_all, Q_all, L_all, bindP, wipeT, setAll, Nat.reduceSub, Nat.reduceAdd, reduceIte]
      all_goals first | rfl | trivial | exact ⟨rfl, rfl⟩
  unfold numT
  simp only [v_Seq, v_If, s1, q1, minus_head, W_all, Q_all, L_all, bindP, wipeT, setAll, Nat.reduceSub, Nat.reduceAdd, reduceIte]
  by_cases c1 : z.cps.toList.head? = some 45
  · simp only [c1, decide_true, v_Seq, v_If, q2, true_and, W_all, Q_all, L_all, bindP, wipeT, setAll, Nat.reduceSub, Nat.reduceAdd, reduceIte]
    by_cases c2 : z = "-0"
    · simp only [c2, decide_true, v_Seq, v_If, false_and, W_all, Q_all, L_all, bindP, wipeT, setAll, Nat.reduceSub, Nat.reduceAdd, reduceIte]
      rw [c2] at rest
      exact rest.imp (fun τ' h' q => ⟨q.1.symm, q.2⟩) fun t h' q => q
    · simp only [c2, decide_false, v_Seq, v_If, s2, q3, not_false_eq_true, true_and, W_all, Q_all, L_all, bindP, wipeT, setAll, Nat.reduceSub, Nat.reduceAdd, reduceIte]
      cases ea : arF (tlS z) with
      | true =>
        simp only [v_Seq, v_If, s2, int_fig ea, W_all, Q_all, L_all, bindP, wipeT, setAll, Nat.reduceSub, Nat.reduceAdd, reduceIte]
        all_goals first | rfl | trivial | exact ⟨rfl, rfl⟩
      | false =>
        simp only [v_Seq, v_If, W_all, Q_all, L_all, bindP, wipeT, setAll, Nat.reduceSub, Nat.reduceAdd, reduceIte]
        exact rest.imp (fun τ' h' q => ⟨q.1.symm, q.2⟩) fun t h' q => q
  · simp only [c1, decide_false, v_Seq, v_If, false_and, W_all, Q_all, L_all, bindP, wipeT, setAll, Nat.reduceSub, Nat.reduceAdd, reduceIte]
    exact rest.imp (fun τ' h' q => ⟨q.1.symm, q.2⟩) fun t h' q => q
theorem item_of_is {rs : List Int} {a b c d : Int} {z p : Str} {qs : List Str} {h : IH} (lz : z.length ≤ 1000) (hp : Txt.split z " " = p :: qs) (ok : ∀ w ∈ p :: qs, PyData.strOk w = true ∧ w.length ≤ 1000) (lq : qs.length ≤ 1000) : f_item_of [machT rs a b c d, .str z] h = .ok (readT rs.length p qs) h := by
  have hs : (100000 : Nat) ≤ sizeLine := by decide
  have ii := fun h : IH => is_item_tm (rs := rs) (a := a) (b := b) (c := c) (d := d) (h := h) (raw_tm ok lq)
  have fin : ∀ (t : T) (h : IH), t = rawT p qs → Ok (f_is_item [machT rs a b c d, t] h) fun x h1 => ∃ b, x = T.bl b ∧ if b = true then t = readT rs.length p qs ∧ h1 = h else T.non = readT rs.length p qs ∧ h1 = h := fun t h e => by
    subst e
    rw [ii, w_ok]
    unfold readT
    cases itB rs.length (rawT p qs)
    · exact ⟨false, rfl, rfl, rfl⟩
    · exact ⟨true, rfl, rfl, rfl⟩
  refine Ok.eq ?_
  unfold f_item_of
  rw [w_runF]
  refine ⟨rfl, ?_⟩
  have sp : ∀ h : IH, gSplit (.str z) (.str " ") h = some (.lst ((p :: qs).map T.str)) := fun h => by
    rw [q_split (by decide +kernel) (by omega), hp]
  simp only [w_eSplit, sp, v_Seq, v_If, W_all, Q_all, L_all, bindP, wipeT, setAll, Nat.reduceSub, Nat.reduceAdd, reduceIte]
  unfold f_item_of_r4
  simp only [v_Seq, v_If, W_all, Q_all, L_all, bindP, wipeT, setAll, Nat.reduceSub, Nat.reduceAdd, reduceIte]
  unfold f_item_of_r3
  have op := (ok p (by simp)).1
  have qa := fun h : IH => eq_strs (h := h) op (b := "line") (by decide +kernel)
  have qb := fun h : IH => eq_strs (h := h) op (b := "wait") (by decide +kernel)
  simp only [v_Seq, v_If, qa, qb, W_all, Q_all, L_all, bindP, wipeT, setAll, Nat.reduceSub, Nat.reduceAdd, reduceIte]
  have el : ∀ (a0 a1 a2 a3 a4 : Option T) (h : IH), lcGo (.nm 5) sTrue f_item_of_e1 [a0, a1, a2, a3, a4, none] (qs.map T.str) h = .ok (qs.map numT) h := fun a0 a1 a2 a3 a4 h =>
    lc_maps (τo := fun w => [a0, a1, a2, a3, a4, some (.str w)]) (fun _ _ => rfl) fun w mw => by
      refine Ok.eq ?_
      unfold f_item_of_e1
      have q := fun h : IH => number_of_is (h := h) (ok w (List.mem_cons_of_mem _ mw)).1 (ok w (List.mem_cons_of_mem _ mw)).2
      simp only [W_all, Q_all, L_all, bindP, wipeT, setAll, Nat.reduceSub, Nat.reduceAdd, reduceIte, q]
  have n1 : ¬ p = "line" → ¬ (p = "line" ∧ 2 < qs.length + 1) := fun q c => q c.1
  have lt : ∀ q : Str, ("line" : Str) = q → (q = "wait" ∨ q = "tool" ∨ q = "mark") → False := fun q e o => by
    subst e
    rcases o with o | o | o <;> revert o <;> decide +kernel
  have wt : ∀ q : Str, ("wait" : Str) = q → (q = "tool" ∨ q = "mark") → False := fun q e o => by
    subst e
    rcases o with o | o <;> revert o <;> decide +kernel
  by_cases c1 : p = "line"
  · have nw : ¬ p = "wait" := fun q => lt p c1.symm (.inl q)
    have nt : (decide (p = "tool") || decide (p = "mark")) = false := by
      rw [decide_eq_false fun q => lt p c1.symm (.inr (.inl q)), decide_eq_false fun q => lt p c1.symm (.inr (.inr q))]; rfl
    rw [if_pos c1]
    by_cases c2 : 2 < qs.length + 1
    · have c2' : ((2 : Int) < ((List.map T.str qs).length + 1 : Nat)) := by rw [List.length_map]; omega
      rw [if_pos c2', show cutL (T.str p :: List.map T.str qs) (some 1) none = List.map T.str qs from cut_from (k := 1), el, w_ok]
      obtain ⟨ls, q, rfl⟩ : ∃ ls q, qs = ls ++ [q] := by
        rcases List.eq_nil_or_concat qs with e | ⟨ls, q, e⟩
        · subst e; exact absurd c2 (by decide)
        · exact ⟨ls, q, by simpa using e⟩
      refine ⟨by rw [List.length_map]; omega, ?_⟩
      have rw1 : rawT p (ls ++ [q]) = .tup [.str "line", .tup (ls.map numT), numT q] := by
        unfold rawT
        rw [if_pos ⟨c1, c2⟩]
        simp
      have cl : cutL ((ls ++ [q]).map numT) none (some (-1)) = ls.map numT := by
        rw [cut_last]; simp
      have al : atI ((ls ++ [q]).map numT) (-1) = some (numT q) := by
        rw [List.map_append]; exact at_last
      unfold f_item_of_r2
      simp only [v_Seq, v_If, cl, al, W_all, Q_all, L_all, bindP, wipeT, setAll, Nat.reduceSub, Nat.reduceAdd, reduceIte]
      refine ⟨by omega, ?_⟩
      refine fin _ _ ?_
      rw [rw1]
    · have c2' : ¬ ((2 : Int) < ((List.map T.str qs).length + 1 : Nat)) := by rw [List.length_map]; omega
      rw [if_neg c2', if_neg nw]
      refine ⟨two_line, _, in_two, _, rfl, ?_⟩
      rw [nt, if_neg (by decide)]
      refine fin _ _ ?_
      unfold rawT
      rw [if_neg fun c => c2 c.2, if_neg fun c => nw c.1, nt, if_neg fun c => by cases c.1]
  rw [if_neg c1]
  have rw2 : rawT p qs = if p = "wait" ∧ qs.length + 1 = 2 then .tup [.str "wait", numT (qs.headD "")] else if (decide (p = "tool") || decide (p = "mark")) = true ∧ qs.length + 1 = 2 then .tup [.str p, .str (qs.headD "")] else .non := by
    unfold rawT
    rw [if_neg (n1 c1)]
  by_cases c3 : p = "wait"
  · have nt : (decide (p = "tool") || decide (p = "mark")) = false := by
      rw [decide_eq_false fun q => wt p c3.symm (.inl q), decide_eq_false fun q => wt p c3.symm (.inr q)]; rfl
    rw [if_pos c3]
    by_cases c2 : qs.length + 1 = 2
    · have c2' : (((List.map T.str qs).length + 1 : Nat) : Int) = 2 := by rw [List.length_map]; omega
      rw [if_pos c2']
      match qs, c2, ok, rw2, fin with
      | [q], _, ok, rw2, fin =>
        refine ⟨_, at1, ?_⟩
        rw [number_of_is (ok q (by simp)).1 (ok q (by simp)).2, w_ok]
        refine ⟨two_line, fin _ _ ?_⟩
        rw [rw2, if_pos ⟨c3, rfl⟩]; rfl
    · have c2' : ¬ (((List.map T.str qs).length + 1 : Nat) : Int) = 2 := by rw [List.length_map]; omega
      rw [if_neg c2']
      refine ⟨two_line, _, in_two, _, rfl, ?_⟩
      rw [nt, if_neg (by decide)]
      refine fin _ _ ?_
      rw [rw2, if_neg fun c => c2 c.2, nt, if_neg fun c => by cases c.1]
  rw [if_neg c3]
  refine ⟨two_line, _, in_two, _, rfl, ?_⟩
  cases nt : (decide (p = "tool") || decide (p = "mark")) with
  | false =>
    rw [if_neg (by decide)]
    refine fin _ _ ?_
    rw [rw2, if_neg fun c => c3 c.1, nt, if_neg fun c => by cases c.1]
  | true =>
    rw [if_pos rfl]
    by_cases c2 : qs.length + 1 = 2
    · have c2' : (((List.map T.str qs).length + 1 : Nat) : Int) = 2 := by rw [List.length_map]; omega
      rw [if_pos c2']
      match qs, c2, ok, rw2, fin with
      | [q], _, ok, rw2, fin =>
        refine ⟨_, at1, two_line, fin _ _ ?_⟩
        rw [rw2, if_neg fun c => c3 c.1, if_pos ⟨nt, rfl⟩]; rfl
    · have c2' : ¬ (((List.map T.str qs).length + 1 : Nat) : Int) = 2 := by rw [List.length_map]; omega
      rw [if_neg c2']
      refine fin _ _ ?_
      rw [rw2, if_neg fun c => c3 c.1, if_neg fun c => c2 c.2]
theorem item_of_row {rs : List Int} {a b c d : Int} {r : Str} {h : IH} (or : PyData.strOk r = true) (lr : r.length ≤ 999) : f_item_of [machT rs a b c d, .str r] h = .ok (readR rs.length r) h := by
  obtain ⟨p, qs, hp, okw, lq, er⟩ := row_read (ax := rs.length) or lr
  rw [er]
  exact item_of_is (by omega) hp okw lq
theorem read_odd {rs : List Int} {a b c d : Int} {t : T} {h : IH} {P : T → IH → Prop} {Z : Ex → IH → Prop} (e : ∀ h : IH, gIsi ["str"] t h = some (.bl false)) (z : Z ⟨"NoText", [("at", .int 0)]⟩ h) : OkX (f_read_items [machT rs a b c d, t] h) P Z := by
  unfold f_read_items
  rw [x_runF]
  refine ⟨rfl, ?_⟩
  rw [z_Seq, z_If]
  refine x_of ?_
  simp only [e, W_all, Q_all, L_all, bindP, wipeT, setAll, Nat.reduceSub, Nat.reduceAdd, reduceIte]
  rw [z_RaiseA]
  refine x_of ?_
  simp only [W_all, Q_all, L_all, bindP, wipeT, setAll, Nat.reduceSub, Nat.reduceAdd, reduceIte]
  exact ⟨_, _, rfl, rfl, by decide, z⟩
theorem read_items_x {rs : List Int} {a b c d : Int} {z : Str} {h : IH} {P : T → IH → Prop} {Z : Ex → IH → Prop} (oz : PyData.strOk z = true) (lz : z.length ≤ 999)
    (p1 : ∀ ts, tdueT rs.length z = .tup ts → P (.tup ts) h) (p2 : ∀ k : Nat, tdueT rs.length z = .int (k : Int) → Z ⟨"NoText", [("at", .int (k : Int))]⟩ h) : OkX (f_read_items [machT rs a b c d, .str z] h) P Z := by
  have hs : (100000 : Nat) ≤ sizeLine := by decide
  have qe := fun h : IH => eq_strs (h := h) oz (b := "") (by decide +kernel)
  unfold f_read_items
  rw [x_runF]
  refine ⟨rfl, ?_⟩
  rw [z_Seq, z_If]
  refine x_of ?_
  simp only [W_all, Q_all, L_all, bindP, wipeT, setAll, Nat.reduceSub, Nat.reduceAdd, reduceIte]
  rw [z_Skip]
  unfold f_read_items_r5
  rw [z_Seq, z_If]
  refine x_of ?_
  simp only [qe, W_all, Q_all, L_all, bindP, wipeT, setAll, Nat.reduceSub, Nat.reduceAdd, reduceIte]
  by_cases z0 : z = ""
  · have e0 : tdueT rs.length z = .tup [] := if_pos z0
    rw [if_pos z0]
    refine z_of ?_
    simp only [W_all, Q_all, L_all, bindP, wipeT, setAll, Nat.reduceSub, Nat.reduceAdd, reduceIte]
    first | exact p1 _ e0 | exact ⟨Nat.zero_le _, p1 _ e0⟩
  rw [if_neg z0, z_Skip]
  have eR : tdueT rs.length z = scanT rs.length (Txt.split z "\n") [] := if_neg z0
  have ro := rows_ok oz lz
  have sp : ∀ h : IH, gSplit (.str z) (.str "\n") h = some (.lst ((Txt.split z "\n").map T.str)) := fun h => q_split (by decide +kernel) (by omega)
  generalize tdueT rs.length z = R at *
  generalize Txt.split z "\n" = rows at *
  unfold f_read_items_r4
  rw [z_Seq]
  refine z_of ?_
  simp only [W_all, Q_all, L_all, bindP, wipeT, setAll, Nat.reduceSub, Nat.reduceAdd, reduceIte]
  refine ⟨Nat.zero_le _, ?_⟩
  unfold f_read_items_r3
  rw [z_Seq, z_For]
  refine x_of ?_
  simp only [w_eSplit, sp, W_all, Q_all, L_all, bindP, wipeT, setAll, Nat.reduceSub, Nat.reduceAdd, reduceIte]
  apply for_ixZ (fun k τ h' => h' = h ∧ ∃ found y3 y4 y5, found.length = k ∧ k ≤ 20 ∧ scanT rs.length (rows.drop k) found = R ∧ τ = [some (machT rs a b c d), some (.str z), some (.lst found), y3, y4, y5])
  case h0 => exact ⟨rfl, [], _, _, _, rfl, by decide, eR.symm, rfl⟩
  case fin =>
    rintro τ h' ⟨rfl, found, y3, y4, y5, lf, l20, es, rfl⟩
    rw [enumL_len, List.length_map, List.drop_length] at es
    refine z_of ?_
    simp only [W_all, Q_all, L_all, bindP, wipeT, setAll, Nat.reduceSub, Nat.reduceAdd, reduceIte]
    exact p1 found es.symm
  rintro k t τ h' ek ⟨rfl, found, y3, y4, y5, lf, l20, es, rfl⟩
  obtain ⟨u, hu, rfl⟩ := enumL_get ek
  rw [List.getElem?_map] at hu
  obtain ⟨r, ei, rfl⟩ : ∃ r, rows[k]? = some r ∧ T.str r = u := by
    cases q : rows[k]? with
    | none => rw [q] at hu; cases hu
    | some r => rw [q] at hu; exact ⟨r, rfl, Option.some.inj hu⟩
  obtain ⟨hk, e0⟩ := List.getElem?_eq_some_iff.mp ei
  have ed : rows.drop k = r :: rows.drop (k + 1) := by rw [List.drop_eq_getElem_cons hk, e0]
  rw [ed] at es
  have okr := ro r (List.mem_of_getElem? ei)
  have ir := fun h : IH => item_of_row (rs := rs) (a := a) (b := b) (c := c) (d := d) (h := h) okr.1 okr.2
  have e2 : scanT rs.length (r :: rows.drop (k + 1)) found = if isNon (readR rs.length r) = true ∨ found.length = 20 then .int (found.length : Int) else scanT rs.length (rows.drop (k + 1)) (found ++ [readR rs.length r]) := rfl
  rw [e2] at es
  have f0 : (false ^^ isNon (readR rs.length r)) = isNon (readR rs.length r) := Bool.false_xor _
  refine ⟨_, rfl, ?_⟩
  unfold f_read_items_b1
  rw [z_Seq]
  refine z_of ?_
  simp only [W_all, Q_all, L_all, bindP, wipeT, setAll, Nat.reduceSub, Nat.reduceAdd, reduceIte, ir]
  unfold f_read_items_r2
  rw [z_Seq, z_If]
  refine x_of ?_
  simp only [c_MOST_ITEMS, f0, W_all, Q_all, L_all, bindP, wipeT, setAll, Nat.reduceSub, Nat.reduceAdd, reduceIte]
  have raise : R = .int (k : Int) → OkZ (sRaiseA "NoText" ["at"] (aCons (eC (.str "no item")) (aCons (eV 3) aNil)) [some (machT rs a b c d), some (.str z), some (.lst found), some (.int (k : Int)), some (.str r), some (readR rs.length r)] h') (fun τ2 h2 => OkZ (f_read_items_r1 τ2 h2) (fun τ2 h2 => h2 = h' ∧ ∃ found y3 y4 y5, found.length = k + 1 ∧ k + 1 ≤ 20 ∧ scanT rs.length (rows.drop (k + 1)) found = R ∧ τ2 = [some (machT rs a b c d), some (.str z), some (.lst found), y3, y4, y5]) P fun x _ h => Z x h) P (fun x _ h => Z x h) := fun e => by
    rw [z_RaiseA]
    refine x_of ?_
    simp only [W_all, Q_all, L_all, bindP, wipeT, setAll, Nat.reduceSub, Nat.reduceAdd, reduceIte]
    exact ⟨_, _, rfl, rfl, by decide, p2 k e⟩
  cases c1 : isNon (readR rs.length r) with
  | true =>
    rw [if_pos (.inl c1), lf] at es
    rw [if_pos rfl]
    exact raise es.symm
  | false =>
    rw [if_neg (by decide)]
    by_cases c2 : k = 20
    · have c2' : (k : Int) = 20 := by omega
      rw [if_pos (.inr (by omega)), lf] at es
      rw [if_pos c2']
      exact raise es.symm
    · have c2' : ¬ (k : Int) = 20 := by omega
      rw [if_neg (fun q => q.elim (fun q => by rw [c1] at q; cases q) (by omega))] at es
      rw [if_neg c2', z_Skip]
      unfold f_read_items_r1
      refine z_of ?_
      simp only [W_all, Q_all, L_all, bindP, wipeT, setAll, Nat.reduceSub, Nat.reduceAdd, reduceIte]
      exact ⟨by omega, _, _, _, _, by rw [List.length_append, List.length_cons, List.length_nil]; omega, by omega, es, rfl⟩
theorem law_is_whole_int {a : Int} {h : IH} : f__law_is_whole [.int a] h = .ok (.bl true) h := rfl
theorem told_text {rs : List Int} {a b c d : Int} {z : Str} {h : IH} (oz : PyData.strOk z = true) (lz : z.length ≤ 999) : f__law_told [machT rs a b c d, .str z] h = .ok (tdueT rs.length z) h := by
  refine Ok.eq ?_
  unfold f__law_told
  rw [w_runF]
  refine ⟨rfl, ?_⟩
  refine z_TryM ?_
  rw [z_Ret]
  refine x_Call ?_
  simp only [W_all, Q_all, L_all, bindP, wipeT, setAll, Nat.reduceSub, Nat.reduceAdd, reduceIte]
  refine read_items_x oz lz (fun ts e => ⟨e.symm, rfl⟩) fun k e => ?_
  refine ⟨f__law_told_x1_NoText, rfl, by simp, ?_⟩
  unfold f__law_told_x1_NoText
  have iw := fun h : IH => law_is_whole_int (a := (k : Int)) (h := h)
  simp only [v_Seq, v_If, eX0, W_all, Q_all, L_all, bindP, wipeT, setAll, Nat.reduceSub, Nat.reduceAdd, reduceIte, iw]
  rw [e]
  all_goals first | exact ⟨rfl, rfl⟩ | trivial
theorem told_odd {rs : List Int} {a b c d : Int} {t : T} {h : IH} (e : ∀ h : IH, gIsi ["str"] t h = some (.bl false)) : f__law_told [machT rs a b c d, t] h = .ok (.int 0) h := by
  refine Ok.eq ?_
  unfold f__law_told
  rw [w_runF]
  refine ⟨rfl, ?_⟩
  refine z_TryM ?_
  rw [z_Ret]
  refine x_Call ?_
  simp only [W_all, Q_all, L_all, bindP, wipeT, setAll, Nat.reduceSub, Nat.reduceAdd, reduceIte]
  refine read_odd e ?_
  refine ⟨f__law_told_x1_NoText, rfl, by simp, ?_⟩
  unfold f__law_told_x1_NoText
  have iw := fun h : IH => law_is_whole_int (a := 0) (h := h)
  simp only [v_Seq, v_If, eX0, W_all, Q_all, L_all, bindP, wipeT, setAll, Nat.reduceSub, Nat.reduceAdd, reduceIte, iw]
  all_goals first | exact ⟨rfl, rfl⟩ | trivial
end Lw
namespace Lw
open PySem PySem.Spec PyProof.Rows L2 GB
theorem law_body {ns : List Int} {k : Int} (hl : ns.length ≤ 63) (k0 : 0 ≤ k) (k1 : k ≤ 100) {y2 y3 y4 y5 y6 y7 y8 y9 : Option T} {h : IH} (hf : flatH h = true) {M : T → IH → Prop} :
    OkS (f_law_b3 [some (.lst (ns.map T.int)), some (.int k), y2, y3, y4, y5, y6, y7, y8, y9] h) (fun τ h' => flatH h' = true ∧ ∃ y1 y2 y3 y4 y5 y6 y7 y8 y9, τ = [some (.lst (ns.map T.int)), y1, y2, y3, y4, y5, y6, y7, y8, y9]) M := by
  have hs : (100000 : Nat) ≤ sizeLine := by decide
  unfold f_law_b3
  simp only [W_all, Q_all, L_all, bindP, wipeT, setAll, Nat.reduceSub, Nat.reduceAdd, reduceIte]
  refine bag_spec hf (by omega) k0 k1 fun n h1 hb1 => ?_
  try simp only [W_all, Q_all, L_all, bindP, wipeT, setAll, Nat.reduceSub, Nat.reduceAdd, reduceIte]
  unfold f_law_r6
  have p39 : ∀ h : IH, gPow (.int 10) (.int 39) h = some (.int (10 ^ 39)) := fun h => by rw [q_pow, if_pos (by decide)]; rfl
  simp only [p39, W_all, Q_all, L_all, bindP, wipeT, setAll, Nat.reduceSub, Nat.reduceAdd, reduceIte]
  refine ⟨by omega, by omega, by omega, by omega, by omega, by omega, ?_⟩
  refine take_spec hb1 (by decide) (by decide) fun e h2 hb2 e0 e1 => ?_
  obtain ⟨odd, eo, ho⟩ := at_allP (l := [T.non, T.int 0, T.bl true, T.lst [], T.lst [T.str ("wait 5" : Str)], T.tup [T.str ("wait 5" : Str)], T.tup [], T.int (10 ^ 39), T.tup [T.str ("wait" : Str), T.int 5], T.bl false]) (Q := fun t => ∀ h : IH, gIsi ["str"] t h = some (.bl false)) (d := e) (by
    simp only [List.forall_mem_cons]
    exact ⟨fun _ => rfl, fun _ => rfl, fun _ => rfl, fun _ => rfl, fun _ => rfl, fun _ => rfl, fun _ => rfl, fun _ => rfl, fun _ => rfl, fun _ => rfl, fun _ m => by cases m⟩) e0 e1
  rw [q_ixL]
  refine ⟨odd, eo, ?_⟩
  unfold f_law_r5
  simp only [W_all, Q_all, L_all, bindP, wipeT, setAll, Nat.reduceSub, Nat.reduceAdd, reduceIte]
  refine machine_spec hb2 fun rs a w c d h3 hb3 l2 l3 hr _ _ _ _ => ?_
  try simp only [W_all, Q_all, L_all, bindP, wipeT, setAll, Nat.reduceSub, Nat.reduceAdd, reduceIte]
  unfold f_law_r4
  have m0 : ∀ h : IH, gIx (machT rs a w c d) (.int 0) h = some (.tup (rs.map T.int)) := fun h => rfl
  simp only [m0, List.length_map, W_all, Q_all, L_all, bindP, wipeT, setAll, Nat.reduceSub, Nat.reduceAdd, reduceIte]
  unfold f_law_r3
  rw [v_For]
  simp only [W_all, Q_all, L_all, bindP, wipeT, setAll, Nat.reduceSub, Nat.reduceAdd, reduceIte]
  refine text_spec hb3 l2 l3 fun z1 h4 hb4 o1 s1 => ?_
  try simp only [W_all, Q_all, L_all, bindP, wipeT, setAll, Nat.reduceSub, Nat.reduceAdd, reduceIte]
  refine text_spec hb4 l2 l3 fun z2 h5 hb5 o2 s2 => ?_
  try simp only [W_all, Q_all, L_all, bindP, wipeT, setAll, Nat.reduceSub, Nat.reduceAdd, reduceIte]
  refine ⟨by omega, ?_⟩
  have fl := hb5.flat
  apply for_keep (fun τ h' => h' = h5 ∧ ∃ y6 y7 y8 y9, τ = [some (.lst (ns.map T.int)), some (.int k), some (.box n), some odd, some (machT rs a w c d), some (.int (rs.length : Int)), y6, y7, y8, y9])
  case h0 => exact ⟨rfl, _, _, _, _, rfl⟩
  case fin => exact fun τ h' ⟨e, y6, y7, y8, y9, q⟩ => ⟨by rw [e]; exact fl, _, _, _, _, _, _, _, _, _, q⟩
  rintro t mt τ h' ⟨rfl, y6, y7, y8, y9, rfl⟩
  have th : ∃ R, (∀ h : IH, f__law_due [t, .int (rs.length : Int)] h = .ok R h) ∧ (∀ h : IH, f__law_told [machT rs a w c d, t] h = .ok R h) ∧ ((∃ ts, R = .tup ts ∧ ts.length ≤ 20 ∧ ∀ u ∈ ts, tmT 2 u = true) ∨ ∃ j : Nat, R = .int (j : Int)) := by
    have tx : ∀ z : Str, PyData.strOk z = true → z.length ≤ 999 → ∃ R, (∀ h : IH, f__law_due [.str z, .int (rs.length : Int)] h = .ok R h) ∧ (∀ h : IH, f__law_told [machT rs a w c d, .str z] h = .ok R h) ∧ ((∃ ts, R = .tup ts ∧ ts.length ≤ 20 ∧ ∀ u ∈ ts, tmT 2 u = true) ∨ ∃ j : Nat, R = .int (j : Int)) := fun z oz lz => ⟨tdueT rs.length z, fun h => tdue_is l2 l3 oz lz, fun h => told_text oz lz, tdue_kind oz lz⟩
    simp only [List.mem_cons, List.not_mem_nil, or_false] at mt
    rcases mt with rfl | rfl | rfl
    · exact tx z1 o1 s1
    · exact tx z2 o2 s2
    · exact ⟨.int 0, fun h => due_odd ho, fun h => told_odd ho, .inr ⟨0, rfl⟩⟩
  obtain ⟨R, di, ti, kd⟩ := th
  refine ⟨_, rfl, ?_⟩
  unfold f_law_b2
  simp only [v_Seq, v_If, di, W_all, Q_all, L_all, bindP, wipeT, setAll, Nat.reduceSub, Nat.reduceAdd, reduceIte]
  unfold f_law_r2
  rw [v_For]
  simp only [W_all, Q_all, L_all, bindP, wipeT, setAll, Nat.reduceSub, Nat.reduceAdd, reduceIte]
  refine ⟨by omega, ?_⟩
  apply for_keep (fun τ h'' => h'' = h' ∧ ∃ y8 y9, τ = [some (.lst (ns.map T.int)), some (.int k), some (.box n), some odd, some (machT rs a w c d), some (.int (rs.length : Int)), some t, some R, y8, y9])
  case h0 => exact ⟨rfl, _, _, rfl⟩
  case fin =>
    rintro τ h'' ⟨rfl, y8, y9, rfl⟩
    exact ⟨rfl, _, _, _, _, rfl⟩
  rintro t2 mt2 τ h'' ⟨rfl, y8, y9, rfl⟩
  refine ⟨_, rfl, ?_⟩
  unfold f_law_b1
  simp only [v_Seq, v_If, W_all, Q_all, L_all, bindP, wipeT, setAll, Nat.reduceSub, Nat.reduceAdd, reduceIte, ti]
  unfold f_law_r1
  rcases kd with ⟨ts, rfl, ll, lq⟩ | ⟨j, rfl⟩
  · have en : ∀ h : IH, gNe (.bl true) (.bl true) h = some (.bl false) := fun h => q_neR (k := 0) (by decide) rfl
    have e2 : ∀ h : IH, gNe (.tup ts) (.tup ts) h = some (.bl false) := fun h => q_neR (k := 3) (by decide) (tm_sh (tm_tup.mpr ⟨by omega, fun u m => lq u m⟩))
    simp only [v_If, W_all, Q_all, L_all, bindP, wipeT, setAll, Nat.reduceSub, Nat.reduceAdd, reduceIte, en, e2]
    all_goals first | exact ⟨rfl, _, _, rfl⟩ | exact ⟨_, _, rfl⟩
  · have en : ∀ h : IH, gNe (.bl false) (.bl false) h = some (.bl false) := fun h => q_neR (k := 0) (by decide) rfl
    simp only [v_If, W_all, Q_all, L_all, bindP, wipeT, setAll, Nat.reduceSub, Nat.reduceAdd, reduceIte, en]
    all_goals first | exact ⟨rfl, _, _, rfl⟩ | exact ⟨_, _, rfl⟩ | (simp only [decide_true, W_all, Q_all, L_all, bindP, wipeT, setAll, Nat.reduceSub, Nat.reduceAdd, reduceIte]; exact ⟨_, _, rfl⟩)
theorem law_true (ns : List Int) (hl : ns.length ≤ 63) : ∃ h', f_law [.lst (ns.map T.int)] [] = .ok (.bl true) h' := by
  have key : Ok (f_law [.lst (ns.map T.int)] []) fun t _ => t = .bl true := by
    unfold f_law
    rw [w_runF]
    refine ⟨rfl, ?_⟩
    rw [v_Seq, v_For]
    simp only [w_iR1, W_all, Q_all, L_all, bindP, wipeT, setAll, Nat.reduceSub, Nat.reduceAdd, reduceIte, List.length_map]
    refine ⟨by repeat' split
               all_goals omega, ?_⟩
    apply for_keep (fun τ h => flatH h = true ∧ ∃ y1 y2 y3 y4 y5 y6 y7 y8 y9, τ = [some (.lst (ns.map T.int)), y1, y2, y3, y4, y5, y6, y7, y8, y9])
    case h0 => exact ⟨rfl, _, _, _, _, _, _, _, _, _, rfl⟩
    case fin => exact fun τ h' q => trivial
    rintro t mt τ h ⟨hf, y1, y2, y3, y4, y5, y6, y7, y8, y9, rfl⟩
    obtain ⟨j, mj, rfl⟩ := List.mem_map.mp mt
    have hj := List.mem_range.mp mj
    refine ⟨_, rfl, ?_⟩
    exact law_body hl (by omega) (by (repeat' split at hj) <;> omega) hf
  obtain ⟨a, h', e, rfl⟩ := key.ex
  exact ⟨h', e⟩
end Lw
namespace Lw
open PySem PySem.Spec PyProof.Rows L2 GB
theorem all_mk : AMK (fun K => spA K f_law) := by
  intro w K h mg fa X G hfa f0 od0 an0 sl0 oc0 kV0 dc0 pm0 cd0 ct0 a0 l0 c0 k0 f1 od1 an1 sl1 oc1 kV1 dc1 pm1 cd1 ct1 a1 l1 c1 k1 f2 od2 an2 sl2 oc2 kV2 dc2 pm2 cd2 ct2 a2 l2 c2 k2 f3 od3 an3 sl3 oc3 kV3 dc3 pm3 cd3 ct3 a3 l3 c3 k3 f4 od4 an4 sl4 oc4 kV4 dc4 pm4 cd4 ct4 a4 l4 c4 k4 f5 od5 an5 sl5 oc5 kV5 dc5 pm5 cd5 ct5 a5 l5 c5 k5 f6 od6 an6 sl6 oc6 kV6 dc6 pm6 cd6 ct6 a6 l6 c6 k6 f7 od7 an7 sl7 oc7 kV7 dc7 pm7 cd7 ct7 a7 l7 c7 k7 f8 od8 an8 sl8 oc8 kV8 dc8 pm8 cd8 ct8 a8 l8 c8 k8 f9 od9 an9 sl9 oc9 kV9 dc9 pm9 cd9 ct9 a9 l9 c9 k9 f10 od10 an10 sl10 oc10 kV10 dc10 pm10 cd10 ct10 a10 l10 c10 k10 f11 od11 an11 sl11 oc11 kV11 dc11 pm11 cd11 ct11 a11 l11 c11 k11 f12 od12 an12 sl12 oc12 kV12 dc12 pm12 cd12 ct12 a12 l12 c12 k12 f13 od13 an13 sl13 oc13 kV13 dc13 pm13 cd13 ct13 a13 l13 c13 k13 f14 od14 an14 sl14 oc14 kV14 dc14 pm14 cd14 ct14 a14 l14 c14 k14 f15 od15 an15 sl15 oc15 kV15 dc15 pm15 cd15 ct15 a15 l15 c15 k15 f16 od16 an16 sl16 oc16 kV16 dc16 pm16 cd16 ct16 a16 l16 c16 k16 f17 od17 an17 sl17 oc17 kV17 dc17 pm17 cd17 ct17 a17 l17 c17 k17 f18 od18 an18 sl18 oc18 kV18 dc18 pm18 cd18 ct18 a18 l18 c18 k18 f19 od19 an19 sl19 oc19 kV19 dc19 pm19 cd19 ct19 a19 l19 c19 k19 f20 od20 an20 sl20 oc20 kV20 dc20 pm20 cd20 ct20 a20 l20 c20 k20 f21 od21 an21 sl21 oc21 kV21 dc21 pm21 cd21 ct21 a21 l21 c21 k21 f22 od22 an22 sl22 oc22 kV22 dc22 pm22 cd22 ct22 a22 l22 c22 k22 f23 od23 an23 sl23 oc23 kV23 dc23 pm23 cd23 ct23 a23 l23 c23 k23 f24 od24 an24 sl24 oc24 kV24 dc24 pm24 cd24 ct24 a24 l24 c24 k24 f25 od25 an25 sl25 oc25 kV25 dc25 pm25 cd25 ct25 a25 l25 c25 k25 f26 od26 an26 sl26 oc26 kV26 dc26 pm26 cd26 ct26 a26 l26 c26 k26 f27 od27 an27 sl27 oc27 kV27 dc27 pm27 cd27 ct27 a27 l27 c27 k27 z_ValueError z_abs z_all z_any z_bool z_enumerate z_int z_isinstance z_len z_max z_min z_range z_str z_tuple C_Full gc_Full C_GlideError gc_GlideError C_Moving gc_Moving C_NoFraction gc_NoFraction C_NoItem gc_NoItem C_NoLine gc_NoLine C_NoMachine gc_NoMachine C_NoPlace gc_NoPlace C_NoRate gc_NoRate C_NoTape gc_NoTape C_NoText gc_NoText C_OffRails gc_OffRails xhg_NoText xhk_NoText xhs_NoText xhd_NoText xha_NoText xhn_NoText xht_NoText xhm_NoText hd_Full ty_Full hd_GlideError ty_GlideError hd_Moving ty_Moving hd_NoFraction ty_NoFraction hd_NoItem ty_NoItem hd_NoLine ty_NoLine hd_NoMachine ty_NoMachine hd_NoPlace ty_NoPlace hd_NoRate ty_NoRate hd_NoTape ty_NoTape hd_NoText ty_NoText hd_OffRails ty_OffRails bb_GlideError sb_NoText_Full sb_NoText_GlideError sb_NoText_Moving sb_NoText_NoFraction sb_NoText_NoItem sb_NoText_NoLine sb_NoText_NoMachine sb_NoText_NoPlace sb_NoText_NoRate sb_NoText_NoTape sb_NoText_NoText sb_NoText_OffRails sv_NoText_ValueError xf_NoText_at sg_GlideError sr_GlideError sv_GlideError nm_NoText q_NoText N_NoText bs_NoText sn_NoText sub_NoText ab_NoText col_NoText dd_NoText m0_NoText m1_NoText m2_NoText m3_NoText m5_NoText xL_NoText xs_NoText xb_NoText xt_NoText xk_NoText fx_NoText odx_NoText anx_NoText slx_NoText ocx_NoText kVx_NoText dcx_NoText pmx_NoText cdx_NoText ctx_NoText xi_NoText xy_NoText xl_NoText xc_NoText xkk_NoText xn_NoText_at t_FIGURES g_FIGURES t_MOST_FIGURES g_MOST_FIGURES t_MOST_ITEMS g_MOST_ITEMS t_MOST_LETTERS g_MOST_LETTERS t_MOST_SPEED g_MOST_SPEED t_MOST_STEPS g_MOST_STEPS t_MOST_WAIT g_MOST_WAIT p_SIDES t0_SIDES t1_SIDES d_SIDES n_SIDES s_SIDES g_SIDES h_SIDES t_SMALL g_SMALL
  have t : Tx K mg C_Full C_GlideError C_Moving C_NoFraction C_NoItem C_NoLine C_NoMachine C_NoPlace C_NoRate C_NoTape C_NoText C_OffRails := ⟨PySem.W.mg_none_of X G z_ValueError, PySem.W.mg_none_of X G z_abs, PySem.W.mg_none_of X G z_all, PySem.W.mg_none_of X G z_any, PySem.W.mg_none_of X G z_bool, PySem.W.mg_none_of X G z_enumerate, PySem.W.mg_none_of X G z_int, PySem.W.mg_none_of X G z_isinstance, PySem.W.mg_none_of X G z_len, PySem.W.mg_none_of X G z_max, PySem.W.mg_none_of X G z_min, PySem.W.mg_none_of X G z_range, PySem.W.mg_none_of X G z_str, PySem.W.mg_none_of X G z_tuple, globT_str X G g_FIGURES, globT_int X G g_MOST_FIGURES, globT_int X G g_MOST_ITEMS, globT_int X G g_MOST_LETTERS, globT_int X G g_MOST_SPEED, globT_int X G g_MOST_STEPS, globT_int X G g_MOST_WAIT, globT_tupA X G g_SIDES h_SIDES (.cons ⟨_, rfl⟩ (.cons ⟨_, rfl⟩ .nil)) (by show 2 ≤ sizeLine; decide), globT_str X G g_SMALL, PySem.W.mg_of X G gc_Full, PySem.W.mg_of X G gc_GlideError, PySem.W.mg_of X G gc_Moving, PySem.W.mg_of X G gc_NoFraction, PySem.W.mg_of X G gc_NoItem, PySem.W.mg_of X G gc_NoLine, PySem.W.mg_of X G gc_NoMachine, PySem.W.mg_of X G gc_NoPlace, PySem.W.mg_of X G gc_NoRate, PySem.W.mg_of X G gc_NoTape, PySem.W.mg_of X G gc_NoText, PySem.W.mg_of X G gc_OffRails, ⟨xhg_NoText, xhk_NoText, xhs_NoText, xhd_NoText, xha_NoText, xhn_NoText, xht_NoText, xhm_NoText⟩, (PySem.W.exm_ref bb_GlideError hd_GlideError ty_GlideError sb_NoText_GlideError), (kit_refL hd_NoText ty_NoText sb_NoText_NoText sb_NoText_NoText), (kit_typL (by decide +kernel) sv_NoText_ValueError), (kita_f (kit_refL hd_Full ty_Full sb_NoText_Full sb_NoText_NoText) (kita_f (kit_refL hd_Moving ty_Moving sb_NoText_Moving sb_NoText_NoText) (kita_f (kit_refL hd_NoFraction ty_NoFraction sb_NoText_NoFraction sb_NoText_NoText) (kita_f (kit_refL hd_NoItem ty_NoItem sb_NoText_NoItem sb_NoText_NoText) (kita_f (kit_refL hd_NoLine ty_NoLine sb_NoText_NoLine sb_NoText_NoText) (kita_f (kit_refL hd_NoMachine ty_NoMachine sb_NoText_NoMachine sb_NoText_NoText) (kita_f (kit_refL hd_NoPlace ty_NoPlace sb_NoText_NoPlace sb_NoText_NoText) (kita_f (kit_refL hd_NoRate ty_NoRate sb_NoText_NoRate sb_NoText_NoText) (kita_f (kit_refL hd_NoTape ty_NoTape sb_NoText_NoTape sb_NoText_NoText) (kita_f (kit_refL hd_OffRails ty_OffRails sb_NoText_OffRails sb_NoText_NoText) kita_nil)))))))))), xf_NoText_at, sg_GlideError, sr_GlideError, sv_GlideError⟩
  have W0 : Here K mg "_law_bag" (topS 37) ["_law_script", "_law_at"] := ⟨f0, _, fun_mk l0 c0 k0, PySem.W.mg_of X G a0, (fun_mk l0 c0 k0).binds (ps := ["_law_script", "_law_at"]) fun _ _ _ _ _ _ us hl => len_2 (P := fun us => bindArgs _ { pos := us } = pure (List.zip _ us)) us hl fun _ _ => rfl⟩
  have W1 : Here K mg "_law_take" (topS 38) ["_law_bag_here", "_law_many"] := ⟨f1, _, fun_mk l1 c1 k1, PySem.W.mg_of X G a1, (fun_mk l1 c1 k1).binds (ps := ["_law_bag_here", "_law_many"]) fun _ _ _ _ _ _ us hl => len_2 (P := fun us => bindArgs _ { pos := us } = pure (List.zip _ us)) us hl fun _ _ => rfl⟩
  have W2 : Here K mg "_law_machine" (topS 40) ["_law_bag_here"] := ⟨f2, _, fun_mk l2 c2 k2, PySem.W.mg_of X G a2, (fun_mk l2 c2 k2).binds (ps := ["_law_bag_here"]) fun _ _ _ _ _ _ us hl => len_1 (P := fun us => bindArgs _ { pos := us } = pure (List.zip _ us)) us hl fun _ => rfl⟩
  have W3 : Here K mg "_law_word" (topS 50) ["_law_bag_here", "_law_word_here"] := ⟨f3, _, fun_mk l3 c3 k3, PySem.W.mg_of X G a3, (fun_mk l3 c3 k3).binds (ps := ["_law_bag_here", "_law_word_here"]) fun _ _ _ _ _ _ us hl => len_2 (P := fun us => bindArgs _ { pos := us } = pure (List.zip _ us)) us hl fun _ _ => rfl⟩
  have W4 : Here K mg "_law_words_put" (topS 51) ["_law_bag_here", "_law_text_here"] := ⟨f4, _, fun_mk l4 c4 k4, PySem.W.mg_of X G a4, (fun_mk l4 c4 k4).binds (ps := ["_law_bag_here", "_law_text_here"]) fun _ _ _ _ _ _ us hl => len_2 (P := fun us => bindArgs _ { pos := us } = pure (List.zip _ us)) us hl fun _ _ => rfl⟩
  have W5 : Here K mg "_law_sign" (topS 45) ["_law_bag_here"] := ⟨f5, _, fun_mk l5 c5 k5, PySem.W.mg_of X G a5, (fun_mk l5 c5 k5).binds (ps := ["_law_bag_here"]) fun _ _ _ _ _ _ us hl => len_1 (P := fun us => bindArgs _ { pos := us } = pure (List.zip _ us)) us hl fun _ => rfl⟩
  have W6 : Here K mg "_law_signs_put" (topS 52) ["_law_bag_here", "_law_text_here"] := ⟨f6, _, fun_mk l6 c6 k6, PySem.W.mg_of X G a6, (fun_mk l6 c6 k6).binds (ps := ["_law_bag_here", "_law_text_here"]) fun _ _ _ _ _ _ us hl => len_2 (P := fun us => bindArgs _ { pos := us } = pure (List.zip _ us)) us hl fun _ _ => rfl⟩
  have W7 : Here K mg "_law_item_text" (topS 43) ["_law_item_here"] := ⟨f7, _, fun_mk l7 c7 k7, PySem.W.mg_of X G a7, (fun_mk l7 c7 k7).binds (ps := ["_law_item_here"]) fun _ _ _ _ _ _ us hl => len_1 (P := fun us => bindArgs _ { pos := us } = pure (List.zip _ us)) us hl fun _ => rfl⟩
  have W8 : Here K mg "_law_name" (topS 41) ["_law_bag_here"] := ⟨f8, _, fun_mk l8 c8 k8, PySem.W.mg_of X G a8, (fun_mk l8 c8 k8).binds (ps := ["_law_bag_here"]) fun _ _ _ _ _ _ us hl => len_1 (P := fun us => bindArgs _ { pos := us } = pure (List.zip _ us)) us hl fun _ => rfl⟩
  have W9 : Here K mg "_law_item" (topS 42) ["_law_bag_here", "_law_axes"] := ⟨f9, _, fun_mk l9 c9 k9, PySem.W.mg_of X G a9, (fun_mk l9 c9 k9).binds (ps := ["_law_bag_here", "_law_axes"]) fun _ _ _ _ _ _ us hl => len_2 (P := fun us => bindArgs _ { pos := us } = pure (List.zip _ us)) us hl fun _ _ => rfl⟩
  have W10 : Here K mg "_law_text" (topS 53) ["_law_bag_here", "_law_axes"] := ⟨f10, _, fun_mk l10 c10 k10, PySem.W.mg_of X G a10, (fun_mk l10 c10 k10).binds (ps := ["_law_bag_here", "_law_axes"]) fun _ _ _ _ _ _ us hl => len_2 (P := fun us => bindArgs _ { pos := us } = pure (List.zip _ us)) us hl fun _ _ => rfl⟩
  have W11 : Here K mg "_law_number_read" (topS 46) ["_law_word_here", "_law_low", "_law_high"] := ⟨f11, _, fun_mk l11 c11 k11, PySem.W.mg_of X G a11, (fun_mk l11 c11 k11).binds (ps := ["_law_word_here", "_law_low", "_law_high"]) fun _ _ _ _ _ _ us hl => len_3 (P := fun us => bindArgs _ { pos := us } = pure (List.zip _ us)) us hl fun _ _ _ => rfl⟩
  have W12 : Here K mg "_law_line_read" (topS 47) ["_law_words", "_law_axes"] := ⟨f12, _, fun_mk l12 c12 k12, PySem.W.mg_of X G a12, (fun_mk l12 c12 k12).binds (ps := ["_law_words", "_law_axes"]) fun _ _ _ _ _ _ us hl => len_2 (P := fun us => bindArgs _ { pos := us } = pure (List.zip _ us)) us hl fun _ _ => rfl⟩
  have W13 : Here K mg "_law_item_read" (topS 48) ["_law_text_here", "_law_axes"] := ⟨f13, _, fun_mk l13 c13 k13, PySem.W.mg_of X G a13, (fun_mk l13 c13 k13).binds (ps := ["_law_text_here", "_law_axes"]) fun _ _ _ _ _ _ us hl => len_2 (P := fun us => bindArgs _ { pos := us } = pure (List.zip _ us)) us hl fun _ _ => rfl⟩
  have W14 : Here K mg "_law_due" (topS 49) ["_law_text_here", "_law_axes"] := ⟨f14, _, fun_mk l14 c14 k14, PySem.W.mg_of X G a14, (fun_mk l14 c14 k14).binds (ps := ["_law_text_here", "_law_axes"]) fun _ _ _ _ _ _ us hl => len_2 (P := fun us => bindArgs _ { pos := us } = pure (List.zip _ us)) us hl fun _ _ => rfl⟩
  have W15 : Here K mg "is_whole" (topS 14) ["thing"] := ⟨f15, _, fun_mk l15 c15 k15, PySem.W.mg_of X G a15, (fun_mk l15 c15 k15).binds (ps := ["thing"]) fun _ _ _ _ _ _ us hl => len_1 (P := fun us => bindArgs _ { pos := us } = pure (List.zip _ us)) us hl fun _ => rfl⟩
  have W16 : Here K mg "is_within" (topS 16) ["thing", "least", "most"] := ⟨f16, _, fun_mk l16 c16 k16, PySem.W.mg_of X G a16, (fun_mk l16 c16 k16).binds (ps := ["thing", "least", "most"]) fun _ _ _ _ _ _ us hl => len_3 (P := fun us => bindArgs _ { pos := us } = pure (List.zip _ us)) us hl fun _ _ _ => rfl⟩
  have W17 : Here K mg "is_name" (topS 26) ["thing"] := ⟨f17, _, fun_mk l17 c17 k17, PySem.W.mg_of X G a17, (fun_mk l17 c17 k17).binds (ps := ["thing"]) fun _ _ _ _ _ _ us hl => len_1 (P := fun us => bindArgs _ { pos := us } = pure (List.zip _ us)) us hl fun _ => rfl⟩
  have W18 : Here K mg "are_steps" (topS 24) ["machine", "thing"] := ⟨f18, _, fun_mk l18 c18 k18, PySem.W.mg_of X G a18, (fun_mk l18 c18 k18).binds (ps := ["machine", "thing"]) fun _ _ _ _ _ _ us hl => len_2 (P := fun us => bindArgs _ { pos := us } = pure (List.zip _ us)) us hl fun _ _ => rfl⟩
  have W19 : Here K mg "is_speed" (topS 25) ["thing"] := ⟨f19, _, fun_mk l19 c19 k19, PySem.W.mg_of X G a19, (fun_mk l19 c19 k19).binds (ps := ["thing"]) fun _ _ _ _ _ _ us hl => len_1 (P := fun us => bindArgs _ { pos := us } = pure (List.zip _ us)) us hl fun _ => rfl⟩
  have W20 : Here K mg "is_item" (topS 27) ["machine", "thing"] := ⟨f20, _, fun_mk l20 c20 k20, PySem.W.mg_of X G a20, (fun_mk l20 c20 k20).binds (ps := ["machine", "thing"]) fun _ _ _ _ _ _ us hl => len_2 (P := fun us => bindArgs _ { pos := us } = pure (List.zip _ us)) us hl fun _ _ => rfl⟩
  have W21 : Here K mg "are_figures" (topS 32) ["text"] := ⟨f21, _, fun_mk l21 c21 k21, PySem.W.mg_of X G a21, (fun_mk l21 c21 k21).binds (ps := ["text"]) fun _ _ _ _ _ _ us hl => len_1 (P := fun us => bindArgs _ { pos := us } = pure (List.zip _ us)) us hl fun _ => rfl⟩
  have W22 : Here K mg "number_of" (topS 33) ["text"] := ⟨f22, _, fun_mk l22 c22 k22, PySem.W.mg_of X G a22, (fun_mk l22 c22 k22).binds (ps := ["text"]) fun _ _ _ _ _ _ us hl => len_1 (P := fun us => bindArgs _ { pos := us } = pure (List.zip _ us)) us hl fun _ => rfl⟩
  have W23 : Here K mg "item_of" (topS 34) ["machine", "text"] := ⟨f23, _, fun_mk l23 c23 k23, PySem.W.mg_of X G a23, (fun_mk l23 c23 k23).binds (ps := ["machine", "text"]) fun _ _ _ _ _ _ us hl => len_2 (P := fun us => bindArgs _ { pos := us } = pure (List.zip _ us)) us hl fun _ _ => rfl⟩
  have W24 : Here K mg "read_items" (topS 35) ["machine", "text"] := ⟨f24, _, fun_mk l24 c24 k24, PySem.W.mg_of X G a24, (fun_mk l24 c24 k24).binds (ps := ["machine", "text"]) fun _ _ _ _ _ _ us hl => len_2 (P := fun us => bindArgs _ { pos := us } = pure (List.zip _ us)) us hl fun _ _ => rfl⟩
  have W25 : Here K mg "_law_is_whole" (topS 39) ["_law_thing"] := ⟨f25, _, fun_mk l25 c25 k25, PySem.W.mg_of X G a25, (fun_mk l25 c25 k25).binds (ps := ["_law_thing"]) fun _ _ _ _ _ _ us hl => len_1 (P := fun us => bindArgs _ { pos := us } = pure (List.zip _ us)) us hl fun _ => rfl⟩
  have W26 : Here K mg "_law_told" (topS 54) ["_law_machine_here", "_law_thing"] := ⟨f26, _, fun_mk l26 c26 k26, PySem.W.mg_of X G a26, (fun_mk l26 c26 k26).binds (ps := ["_law_machine_here", "_law_thing"]) fun _ _ _ _ _ _ us hl => len_2 (P := fun us => bindArgs _ { pos := us } = pure (List.zip _ us)) us hl fun _ _ => rfl⟩
  have Wx_NoText : HereX K mg "NoText" "NoText.__init__" C_NoText (inClass (topS 9) 0) ["self", "words", "at"] ["at"] := ⟨⟨⟨_, _, _, _, _, _, _, _, _, _, _, _, _, _, _, xL_NoText, rfl⟩, xs_NoText, xb_NoText, xt_NoText, xk_NoText⟩, PySem.W.mg_of X G gc_NoText, (no_cons xn_NoText_at no_nil), fx_NoText, _, xi_NoText, xy_NoText, fun_mk xl_NoText xc_NoText xkk_NoText, (fun_mk xl_NoText xc_NoText xkk_NoText).binds (ps := ["self", "words", "at"]) fun _ _ _ _ _ _ us hl => len_3 (P := fun us => bindArgs _ { pos := us } = pure (List.zip _ us)) us hl fun _ _ _ => rfl⟩
  have e := hfa.symm.trans (PySem.W.mg_of X G a27)
  cases e
  exact ⟨_, fun s v => .of_eq rfl, fun base _ _ => fnA <| all_ok t (fun_mk l27 c27 k27) W0 W1 W2 W3 W4 W5 W6 W7 W8 W9 W10 W11 W12 W13 W14 W15 W16 W17 W18 W19 W20 W21 W22 W23 W24 W25 W26 Wx_NoText⟩
end Lw
theorem PySem.Challenge.cw_glidequeue_k54_texts_of_no_items_holds : PySem.Challenge.rw_glidequeue_k54_texts_of_no_items.Holds :=
  Lw.hd (S := fun K => GB.spA K Lw.f_law) Lw.all_mk fun K H a ns hl hS => GB.law_inA hS (Lw.law_true ns hl)
