import PyProof.Rows.All
import Wide.All
import OpenK.AllK
import Wide.FinOn
import PySem.Challenge.RW_meetcounts_k85_whole_texts
import HandS.ForMost
import HandS.Nested
import HandS.EndTab
import HandS.CallSlots
import HandS.IsInst
import HandS.FStr
import HandS.TupAny
import HandS.ForExc
import KE.GoesMore
import HandS.Zip
import HandS.Text
import HandS.Style
import HandS.TupLe
import HandS.TupMul
import HandS.WideBits
import HandS.Deep
import HandS.Strs
import HandS.Codes
import HandS.MapJoin
import PyProof.StrOps2
import HandS.Defaults
import HandS.HeadHook1
import HandS.HeadHook2
import HandS.HeadHook3
import HandS.HeadHook4
import HandS.HeadWalk
import HandS.Head0
import HandS.Head1
import HandS.Head2
set_option Elab.async false
set_option linter.all false
set_option maxRecDepth 100000
set_option maxHeartbeats 4000000
/-! data, stores, and how they lie in the abstract heap -/
namespace MP
open PySem PySem.Spec PyProof.Rows L2

inductive D where
  | non | bl (b : Bool) | int (i : Int) | str (x : Str)
  | tup (ds : List D) | lst (ds : List D) | scr (ns : List Int)
  | dct (ks vs : List D) | loc (n : Nat) | fn (x : Str) | clo (k : Nat) (cs : List D)

inductive Ob where
  | lst (ds : List D)
  | ins (c : Str) (fs : List (Str × D))
abbrev Sto := List Ob

/-- a raised thing: its class, what it keeps -/
structure Exn where
  cls : Str
  arg : Option (Str × D)

inductive Rs (α : Type) where
  | ok (a : α) (μ : Sto)
  | ex (e : Exn) (μ : Sto)
  | er

inductive Sl where
  | un | val (d : D) | own (ds : List D) | ownD (ks vs : List D)
abbrev Env' := List Sl

inductive SRs where
  | nx (ρ : Env') (μ : Sto)
  | rt (d : D) (μ : Sto)
  | bk (ρ : Env') (μ : Sto)
  | ct (ρ : Env') (μ : Sto)
  | ex (e : Exn) (ρ : Env') (μ : Sto)
  | er

/-- a lambda of the text -/
structure Lam where
  params : Arguments
  body : Expr
  scope : Scope
  N : List Str
  ps : List Str
  fr : List Str

structure G where
  K : PySem.W.Frag
  mg : Str → Option Value
  tabs : List NdefX.NTab
  lam : Nat → Option Lam

def keyD : Key → D
  | .inl i => .int i
  | .inr x => .str x

/-- the script: a list that never changes -/
def ScrL (K : PySem.W.Frag) (B : Addr → Prop) (H : Hp) (a : Addr) (xs : List V) : Prop :=
  (H a = some (.lst xs) ∧ ¬ B a) ∨ (∃ o, H a = some (.frz o (.lst xs))) ∨
    ∃ (o : Obj) (its : Array Value) (n : Nat), K.lookup a = some o ∧ o.cls = .type "list" ∧ o.dict = none ∧ o.data = .seq its n ∧ its.size ≤ sizeLine ∧ Vals xs its.toList
theorem ScrL.sq {K : PySem.W.Frag} {B : Addr → Prop} {H : Hp} {a : Addr} {xs : List V} (h : ScrL K B H a xs) : SqL K H a xs := by
  rcases h with ⟨h, _⟩ | ⟨o, h⟩ | h
  · exact .inl (.inl h)
  · exact .inl (.inr ⟨o, h⟩)
  · exact .inr h
theorem ScrL.of {K : PySem.W.Frag} {B : Addr → Prop} {H : Hp} {a : Addr} {xs : List V} (h : SqL K H a xs) (n : ¬ B a) : ScrL K B H a xs := by
  rcases h with (h | ⟨o, h⟩) | h
  · exact .inl ⟨h, n⟩
  · exact .inr (.inl ⟨o, h⟩)
  · exact .inr (.inr h)
theorem ScrL.less {K : PySem.W.Frag} {B B' : Addr → Prop} {H : Hp} {a : Addr} {xs : List V} (h : ScrL K B H a xs) (hs : ∀ a, B' a → B a) : ScrL K B' H a xs := by
  rcases h with ⟨h, n⟩ | h
  · exact .inl ⟨h, fun z => n (hs a z)⟩
  · exact .inr h
section
variable (g : G) (B : Addr → Prop) (ι : List Addr) (H : Hp)
mutual
def Rep : D → V → Prop
  | .non, v => v = .non
  | .bl b, v => v = .bl b
  | .int i, v => v = .int i
  | .str x, v => v = .str x
  | .tup ds, v => ∃ a vs, v = .ref a ∧ SqT g.K H a vs ∧ Reps ds vs
  | .lst ds, v => ∃ a vs, v = .ref a ∧ H a = some (.lst vs) ∧ ¬ B a ∧ Reps ds vs
  | .scr ns, v => ∃ a, v = .ref a ∧ ScrL g.K B H a (ns.map V.int)
  | .dct ks vs, v => ∃ a us, v = .ref a ∧ ¬ B a ∧ Reps vs us ∧
      ((∃ kk : List Key, H a = some (.dK (kk.zip us)) ∧ ks = kk.map keyD ∧ kk.length = us.length) ∨
       (∃ kk : List (List Key), H a = some (.dT (kk.zip us)) ∧ ks = kk.map (fun k => D.tup (k.map keyD)) ∧ kk.length = us.length))
  | .loc n, v => ∃ a, ι[n]? = some a ∧ v = .ref a
  | .fn x, v => ∃ u, g.mg x = some u ∧ RelV v u
  | .clo _ _, _ => False
def Reps : List D → List V → Prop
  | [], vs => vs = []
  | d :: ds, vs => ∃ v r, vs = v :: r ∧ Rep d v ∧ Reps ds r
end

/-- the function object of a lambda at f -/
def LamO (f : Addr) (L : Lam) (q : Str) (cl : List (Str × Addr)) (c : Addr) : HO :=
  .ext fun h => ∃ (od : Option Addr) (sl : Array (Option Value)) (pm ctv : Value), h.get? f = some (⟨.type "function", od, .func (PySem.W.kla_fn "<lambda>" q L.params L.body L.scope cl pm (.ref c) ctv), sl⟩ : Obj)
/-- an object that stands as it is (a cell that is lent) -/
def FixO (o : Obj) : HO := .frz o (.own 0)
/-- some places are not told -/
def hide (H : Hp) (as : List Addr) : Hp := fun b => if b ∈ as then none else H b
/-- the cells of a closure -/
def cellsOf (cl : List (Str × Addr)) (fr : List Str) : List Addr := fr.filterMap fun y => cl.lookup y
mutual
/-- a closure: its function object, its code object, its captured cells -/
def RepC : Hp → D → V → Prop
  | H, .clo k cs, v => ∃ (f c : Addr) (q : Str) (cl : List (Str × Addr)) (L : Lam) (us : List V), g.lam k = some L ∧ v = .ref f ∧ H f = some (LamO f L q cl c) ∧ H c = some (LamX.CodeO c q) ∧
      us.length = L.fr.length ∧ (∀ x y a, cl.lookup x = some a → cl.lookup y = some a → x = y) ∧
      (∀ y a, cl.lookup y = some a → y ∈ L.fr) ∧
      (∀ (i : Nat) (y : Str), L.fr[i]? = some y → ∃ (a : Addr) (o : Obj) (u : Value) (v : V), cl.lookup y = some a ∧ H a = some (FixO o) ∧ ¬ B a ∧ o.data = .cell (some u) ∧ us[i]? = some v ∧ RelV v u) ∧ RepAs (hide H (cellsOf cl L.fr)) cs us
  | _, _, _ => False
def RepAs : Hp → List D → List V → Prop
  | _, [], vs => vs = []
  | H, d :: ds, vs => ∃ v r, vs = v :: r ∧ (Rep g B ι H d v ∨ RepC H d v) ∧ RepAs H ds r
end
def RepA (d : D) (v : V) : Prop := Rep g B ι H d v ∨ RepC g B ι H d v
/-- a value, or an own list that is just looked at -/
def RepT (d : D) (v : V) : Prop := Rep g B ι H d v ∨ ∃ ds a vs, d = .lst ds ∧ v = .ref a ∧ H a = some (.lst vs) ∧ Reps g B ι H ds vs ∧ B a ∧ a ∉ ι
def RepF : List (Str × D) → List (Str × V) → Prop
  | [], fs => fs = []
  | p :: ps, fs => ∃ v r, fs = (p.1, v) :: r ∧ Rep g B ι H p.2 v ∧ RepF ps r
def RepO : Ob → Addr → Prop
  | .lst ds, a => ∃ vs, H a = some (.lst vs) ∧ Reps g B ι H ds vs
  | .ins c fs, a => ∃ C dx vs, g.mg c = some (.ref C) ∧ H a = some (.ins C dx vs) ∧ RepF g B ι H fs vs
def RepX (e : Exn) (cls : Value) (dx : Option Addr) : Prop :=
  ∃ C, g.mg e.cls = some (.ref C) ∧ cls = .ref C ∧ match e.arg with
    | none => True
    | some p => ∃ d v, dx = some d ∧ H d = some (.xd [(p.1, v)]) ∧ Rep g B ι H p.2 v
end

/-- what may change in place -/
def isMut : HO → Prop
  | .lst _ => True
  | .dK _ => True
  | .dT _ => True
  | .set _ _ => True
  | .ins _ _ _ => True
  | _ => False

/-- a step: what stands stays, but what the store holds; new places are new -/
structure Ext (ι : List Addr) (B : Addr → Prop) (H : Hp) (ι' : List Addr) (B' : Addr → Prop) (H' : Hp) : Prop where
  pre : ∃ r, ι' = ι ++ r
  newI : ∀ a, a ∈ ι' → a ∈ ι ∨ H a = none
  mono : ∀ a, B a → B' a
  newB : ∀ a, B' a → B a ∨ H a = none
  fr : ∀ a o, H a = some o → (∀ ps, o ≠ .tbl ps) → H' a = some o ∨ (a ∈ ι ∧ isMut o)
  dom : ∀ a, H' a = none → H a = none
theorem Ext.refl (ι : List Addr) (B : Addr → Prop) (H : Hp) : Ext ι B H ι B H :=
  ⟨⟨[], by simp⟩, fun _ h => .inl h, fun _ h => h, fun _ h => .inl h, fun _ _ h _ => .inl h, fun _ h => h⟩
theorem Ext.trans {ι ι1 ι2 : List Addr} {B B1 B2 : Addr → Prop} {H H1 H2 : Hp} (x : Ext ι B H ι1 B1 H1) (y : Ext ι1 B1 H1 ι2 B2 H2) : Ext ι B H ι2 B2 H2 := by
  refine ⟨?_, fun a h => ?_, fun a h => y.mono a (x.mono a h), fun a h => ?_, fun a o h n => ?_, fun a h => x.dom a (y.dom a h)⟩
  · obtain ⟨r, e⟩ := x.pre
    obtain ⟨r2, e2⟩ := y.pre
    exact ⟨r ++ r2, by rw [e2, e, List.append_assoc]⟩
  · rcases y.newI a h with z | z
    · exact x.newI a z
    · exact .inr (x.dom a z)
  · rcases y.newB a h with z | z
    · exact x.newB a z
    · exact .inr (x.dom a z)
  · rcases x.fr a o h n with z | z
    · rcases y.fr a o z n with w | ⟨w, m⟩
      · exact .inl w
      · rcases x.newI a w with q | q
        · exact .inr ⟨q, m⟩
        · rw [h] at q; cases q
    · exact .inr z

/-- a weaker step: what is barred may have changed -/
structure Ex2 (ι : List Addr) (B : Addr → Prop) (H : Hp) (ι' : List Addr) (B' : Addr → Prop) (H' : Hp) : Prop where
  pre : ∃ r, ι' = ι ++ r
  newI : ∀ a, a ∈ ι' → a ∈ ι ∨ H a = none
  newB : ∀ a, B' a → B a ∨ H a = none
  fr : ∀ a o, H a = some o → (∀ ps, o ≠ .tbl ps) → (isMut o → ¬ B a) → H' a = some o
  dom : ∀ a, H' a = none → H a = none
theorem Ext.two {ι ι' : List Addr} {B B' : Addr → Prop} {H H' : Hp} (x : Ext ι B H ι' B' H') (hB : ∀ a ∈ ι, B a) : Ex2 ι B H ι' B' H' :=
  ⟨x.pre, x.newI, x.newB, fun a o h n m => (x.fr a o h n).elim id fun z => absurd (hB a z.1) (m z.2), x.dom⟩
theorem Ex2.refl (ι : List Addr) (B : Addr → Prop) (H : Hp) : Ex2 ι B H ι B H :=
  ⟨⟨[], by simp⟩, fun _ h => .inl h, fun _ h => .inl h, fun _ _ h _ _ => h, fun _ h => h⟩
theorem Ex2.trans {ι ι1 ι2 : List Addr} {B B1 B2 : Addr → Prop} {H H1 H2 : Hp} (x : Ex2 ι B H ι1 B1 H1) (y : Ex2 ι1 B1 H1 ι2 B2 H2) : Ex2 ι B H ι2 B2 H2 := by
  refine ⟨?_, fun a h => ?_, fun a h => ?_, fun a o h n m => ?_, fun a h => x.dom a (y.dom a h)⟩
  · obtain ⟨r, e⟩ := x.pre
    obtain ⟨r2, e2⟩ := y.pre
    exact ⟨r ++ r2, by rw [e2, e, List.append_assoc]⟩
  · rcases y.newI a h with z | z
    · exact x.newI a z
    · exact .inr (x.dom a z)
  · rcases y.newB a h with z | z
    · exact x.newB a z
    · exact .inr (x.dom a z)
  · refine y.fr a o (x.fr a o h n m) n fun mo b => ?_
    rcases x.newB a b with w | w
    · exact m mo w
    · rw [h] at w; cases w

section
variable {g : G} {ι ι' : List Addr} {B B' : Addr → Prop} {H H' : Hp}
theorem Ex2.tup (x : Ex2 ι B H ι' B' H') {a : Addr} {vs : List V} (h : SqT g.K H a vs) : SqT g.K H' a vs := by
  rcases h with (h | ⟨o, h⟩) | h
  · exact .inl (.inl (x.fr a _ h (fun _ z => by cases z) (fun m => m.elim)))
  · exact .inl (.inr ⟨o, x.fr a _ h (fun _ z => by cases z) (fun m => m.elim)⟩)
  · exact .inr h
theorem Ex2.keep (x : Ex2 ι B H ι' B' H') {a : Addr} {o : HO} (h : H a = some o) (n : ∀ ps, o ≠ .tbl ps) (b : ¬ B a) : H' a = some o ∧ ¬ B' a := by
  refine ⟨x.fr a o h n fun _ => b, fun z => ?_⟩
  rcases x.newB a z with w | w
  · exact b w
  · rw [h] at w; cases w
theorem Ex2.at (x : Ex2 ι B H ι' B' H') {n : Nat} {a : Addr} (h : ι[n]? = some a) : ι'[n]? = some a := by
  obtain ⟨r, e⟩ := x.pre
  rw [e, List.getElem?_append_left]
  · exact h
  · exact (List.getElem?_eq_some_iff.mp h).1
theorem Ex2.scr (x : Ex2 ι B H ι' B' H') {a : Addr} {vs : List V} (h : ScrL g.K B H a vs) : ScrL g.K B' H' a vs := by
  rcases h with ⟨h, n⟩ | ⟨o, h⟩ | h
  · exact .inl (x.keep h (fun _ z => by cases z) n)
  · exact .inr (.inl ⟨o, x.fr a _ h (fun _ z => by cases z) (fun m => m.elim)⟩)
  · exact .inr (.inr h)
mutual
theorem Rep.step (x : Ex2 ι B H ι' B' H') : ∀ {d : D} {v : V}, Rep g B ι H d v → Rep g B' ι' H' d v
  | .non, _, h => h
  | .bl _, _, h => h
  | .int _, _, h => h
  | .str _, _, h => h
  | .tup ds, v, h => by
    simp only [Rep] at h ⊢
    obtain ⟨a, vs, e, h1, h2⟩ := h
    exact ⟨a, vs, e, x.tup h1, Reps.step x h2⟩
  | .lst ds, v, h => by
    simp only [Rep] at h ⊢
    obtain ⟨a, vs, e, h1, h3, h2⟩ := h
    obtain ⟨p, q⟩ := x.keep h1 (fun _ z => by cases z) h3
    exact ⟨a, vs, e, p, q, Reps.step x h2⟩
  | .scr ns, v, h => by
    simp only [Rep] at h ⊢
    obtain ⟨a, e, h1⟩ := h
    exact ⟨a, e, x.scr h1⟩
  | .dct ks vs, v, h => by
    simp only [Rep] at h ⊢
    obtain ⟨a, us, e, b, h2, h1⟩ := h
    rcases h1 with ⟨kk, h1, e1, e2⟩ | ⟨kk, h1, e1, e2⟩
    · obtain ⟨p, q⟩ := x.keep h1 (fun _ z => by cases z) b
      exact ⟨a, us, e, q, Reps.step x h2, .inl ⟨kk, p, e1, e2⟩⟩
    · obtain ⟨p, q⟩ := x.keep h1 (fun _ z => by cases z) b
      exact ⟨a, us, e, q, Reps.step x h2, .inr ⟨kk, p, e1, e2⟩⟩
  | .loc n, v, h => by
    simp only [Rep] at h ⊢
    obtain ⟨a, e, h1⟩ := h
    exact ⟨a, x.at e, h1⟩
  | .fn _, _, h => h
  | .clo _ _, _, h => h
theorem Reps.step (x : Ex2 ι B H ι' B' H') : ∀ {ds : List D} {vs : List V}, Reps g B ι H ds vs → Reps g B' ι' H' ds vs
  | [], _, h => h
  | d :: ds, vs, h => by
    simp only [Reps] at h ⊢
    obtain ⟨v, r, e, h1, h2⟩ := h
    exact ⟨v, r, e, Rep.step x h1, Reps.step x h2⟩
end
theorem Ex2.ext (x : Ex2 ι B H ι' B' H') {a : Addr} {φ : Heap → Prop} (h : H a = some (.ext φ)) : H' a = some (.ext φ) := x.fr a _ h (fun _ z => by cases z) (fun m => m.elim)
theorem Ex2.hide (x : Ex2 ι B H ι' B' H') (as : List Addr) : Ex2 ι B (hide H as) ι' B' (hide H' as) := by
  refine ⟨x.pre, fun a h => ?_, fun a h => ?_, fun a o h n m => ?_, fun a h => ?_⟩
  · unfold MP.hide
    rcases x.newI a h with z | z
    · exact .inl z
    · right; split
      · rfl
      · exact z
  · unfold MP.hide
    rcases x.newB a h with z | z
    · exact .inl z
    · right; split
      · rfl
      · exact z
  · unfold MP.hide at h ⊢
    split at h
    · cases h
    · rename_i hn
      rw [if_neg hn]
      exact x.fr a o h n m
  · unfold MP.hide at h ⊢
    split at h
    · rename_i hn; rw [if_pos hn]
    · rename_i hn; rw [if_neg hn]; exact x.dom a h
mutual
theorem RepC.step : ∀ {H H' : Hp} (x : Ex2 ι B H ι' B' H') {d : D} {v : V}, RepC g B ι H d v → RepC g B' ι' H' d v
  | _, _, _, .non, _, h => h
  | _, _, _, .bl _, _, h => h
  | _, _, _, .int _, _, h => h
  | _, _, _, .str _, _, h => h
  | _, _, _, .tup _, _, h => h
  | _, _, _, .lst _, _, h => h
  | _, _, _, .scr _, _, h => h
  | _, _, _, .dct _ _, _, h => h
  | _, _, _, .loc _, _, h => h
  | _, _, _, .fn _, _, h => h
  | H, H', x, .clo k cs, v, h => by
    simp only [RepC] at h ⊢
    obtain ⟨f, c, q, cl, L, us, e1, e2, h1, h2, e3, h3, h4, h5, h6⟩ := h
    refine ⟨f, c, q, cl, L, us, e1, e2, x.ext h1, x.ext h2, e3, h3, h4, fun i y hy => ?_, RepAs.step (x.hide _) h6⟩
    obtain ⟨a, o, u, v, q1, q2, nb, q3, q4, q5⟩ := h5 i y hy
    obtain ⟨p1, p2⟩ := x.keep q2 (fun _ z => by cases z) nb
    exact ⟨a, o, u, v, q1, p1, p2, q3, q4, q5⟩
theorem RepAs.step : ∀ {H H' : Hp} (x : Ex2 ι B H ι' B' H') {ds : List D} {vs : List V}, RepAs g B ι H ds vs → RepAs g B' ι' H' ds vs
  | _, _, _, [], _, h => h
  | H, H', x, d :: ds, vs, h => by
    simp only [RepAs] at h ⊢
    obtain ⟨v, r, e, h1, h2⟩ := h
    exact ⟨v, r, e, h1.elim (fun z => .inl (Rep.step x z)) (fun z => .inr (RepC.step x z)), RepAs.step x h2⟩
end
theorem RepA.step (x : Ex2 ι B H ι' B' H') {d : D} {v : V} (h : RepA g B ι H d v) : RepA g B' ι' H' d v :=
  h.elim (fun z => .inl (Rep.step x z)) (fun z => .inr (RepC.step x z))
theorem RepF.step (x : Ex2 ι B H ι' B' H') : ∀ {fs : List (Str × D)} {vs : List (Str × V)}, RepF g B ι H fs vs → RepF g B' ι' H' fs vs
  | [], _, h => h
  | p :: ps, vs, h => by
    simp only [RepF] at h ⊢
    obtain ⟨v, r, e, h1, h2⟩ := h
    exact ⟨v, r, e, Rep.step x h1, RepF.step x h2⟩
/-- fewer places are barred -/
theorem less_ {B' : Addr → Prop} (hs : ∀ a, B' a → B a) {a : Addr} (b : ¬ B a) : ¬ B' a := fun z => b (hs a z)
mutual
theorem Rep.less {B' : Addr → Prop} (hs : ∀ a, B' a → B a) : ∀ {d : D} {v : V}, Rep g B ι H d v → Rep g B' ι H d v
  | .non, _, h => h
  | .bl _, _, h => h
  | .int _, _, h => h
  | .str _, _, h => h
  | .tup ds, v, h => by
    simp only [Rep] at h ⊢
    obtain ⟨a, vs, e, h1, h2⟩ := h
    exact ⟨a, vs, e, h1, Reps.less hs h2⟩
  | .lst ds, v, h => by
    simp only [Rep] at h ⊢
    obtain ⟨a, vs, e, h1, h3, h2⟩ := h
    exact ⟨a, vs, e, h1, less_ hs h3, Reps.less hs h2⟩
  | .scr ns, v, h => by
    simp only [Rep] at h ⊢
    obtain ⟨a, e, h1⟩ := h
    exact ⟨a, e, h1.less hs⟩
  | .dct ks vs, v, h => by
    simp only [Rep] at h ⊢
    obtain ⟨a, us, e, b, h2, h1⟩ := h
    exact ⟨a, us, e, less_ hs b, Reps.less hs h2, h1⟩
  | .loc n, v, h => h
  | .fn _, _, h => h
  | .clo _ _, _, h => h
theorem Reps.less {B' : Addr → Prop} (hs : ∀ a, B' a → B a) : ∀ {ds : List D} {vs : List V}, Reps g B ι H ds vs → Reps g B' ι H ds vs
  | [], _, h => h
  | d :: ds, vs, h => by
    simp only [Reps] at h ⊢
    obtain ⟨v, r, e, h1, h2⟩ := h
    exact ⟨v, r, e, Rep.less hs h1, Reps.less hs h2⟩
end
mutual
theorem RepC.less {B' : Addr → Prop} (hs : ∀ a, B' a → B a) : ∀ {H : Hp} {d : D} {v : V}, RepC g B ι H d v → RepC g B' ι H d v
  | _, .non, _, h => h
  | _, .bl _, _, h => h
  | _, .int _, _, h => h
  | _, .str _, _, h => h
  | _, .tup _, _, h => h
  | _, .lst _, _, h => h
  | _, .scr _, _, h => h
  | _, .dct _ _, _, h => h
  | _, .loc _, _, h => h
  | _, .fn _, _, h => h
  | H, .clo k cs, v, h => by
    simp only [RepC] at h ⊢
    obtain ⟨f, c, q, cl, L, us, e1, e2, h1, h2, e3, h3, h4, h5, h6⟩ := h
    refine ⟨f, c, q, cl, L, us, e1, e2, h1, h2, e3, h3, h4, fun i y hy => ?_, RepAs.less hs h6⟩
    obtain ⟨a, o, u, v, q1, q2, nb, q3, q4, q5⟩ := h5 i y hy
    exact ⟨a, o, u, v, q1, q2, less_ hs nb, q3, q4, q5⟩
theorem RepAs.less {B' : Addr → Prop} (hs : ∀ a, B' a → B a) : ∀ {H : Hp} {ds : List D} {vs : List V}, RepAs g B ι H ds vs → RepAs g B' ι H ds vs
  | _, [], _, h => h
  | H, d :: ds, vs, h => by
    simp only [RepAs] at h ⊢
    obtain ⟨v, r, e, h1, h2⟩ := h
    exact ⟨v, r, e, h1.elim (fun z => .inl (Rep.less hs z)) (fun z => .inr (RepC.less hs z)), RepAs.less hs h2⟩
end
theorem RepF.less {B' : Addr → Prop} (hs : ∀ a, B' a → B a) : ∀ {fs : List (Str × D)} {vs : List (Str × V)}, RepF g B ι H fs vs → RepF g B' ι H fs vs
  | [], _, h => h
  | p :: ps, vs, h => by
    simp only [RepF] at h ⊢
    obtain ⟨v, r, e, h1, h2⟩ := h
    exact ⟨v, r, e, Rep.less hs h1, RepF.less hs h2⟩
theorem RepA.less {B' : Addr → Prop} (hs : ∀ a, B' a → B a) {d : D} {v : V} (h : RepA g B ι H d v) : RepA g B' ι H d v :=
  h.elim (fun z => .inl (Rep.less hs z)) (fun z => .inr (RepC.less hs z))
theorem RepO.less {B' : Addr → Prop} (hs : ∀ a, B' a → B a) : ∀ {ob : Ob} {a : Addr}, RepO g B ι H ob a → RepO g B' ι H ob a
  | .lst ds, a, ⟨vs, h1, h2⟩ => ⟨vs, h1, h2.less hs⟩
  | .ins c fs, a, ⟨C, dx, vs, e, h1, h2⟩ => ⟨C, dx, vs, e, h1, h2.less hs⟩
end

/-! ### all but the lent cells -/
def Keeps (H H' : Hp) : Prop := ∀ a o, H a = some o → (∀ ob, o ≠ FixO ob) → H' a = some o
section
variable {g : G} {ι : List Addr} {B : Addr → Prop} {H H' : Hp}
theorem Keeps.tup (x : Keeps H H') {K : PySem.W.Frag} {a : Addr} {vs : List V} (h : SqT K H a vs) : SqT K H' a vs := by
  rcases h with (h | ⟨o, h⟩) | h
  · exact .inl (.inl (x a _ h fun _ z => by cases z))
  · exact .inl (.inr ⟨o, x a _ h fun _ z => by cases z⟩)
  · exact .inr h
theorem Keeps.scr (x : Keeps H H') {K : PySem.W.Frag} {a : Addr} {vs : List V} (h : ScrL K B H a vs) : ScrL K B H' a vs := by
  rcases h with ⟨h, n⟩ | ⟨o, h⟩ | h
  · exact .inl ⟨x a _ h (fun _ z => by cases z), n⟩
  · exact .inr (.inl ⟨o, x a _ h fun _ z => by cases z⟩)
  · exact .inr (.inr h)
mutual
theorem Rep.keeps (x : Keeps H H') : ∀ {d : D} {v : V}, Rep g B ι H d v → Rep g B ι H' d v
  | .non, _, h => h
  | .bl _, _, h => h
  | .int _, _, h => h
  | .str _, _, h => h
  | .tup ds, v, h => by
    simp only [Rep] at h ⊢
    obtain ⟨a, vs, e, h1, h2⟩ := h
    exact ⟨a, vs, e, x.tup h1, Reps.keeps x h2⟩
  | .lst ds, v, h => by
    simp only [Rep] at h ⊢
    obtain ⟨a, vs, e, h1, h3, h2⟩ := h
    exact ⟨a, vs, e, x a _ h1 (fun _ z => by cases z), h3, Reps.keeps x h2⟩
  | .scr ns, v, h => by
    simp only [Rep] at h ⊢
    obtain ⟨a, e, h1⟩ := h
    exact ⟨a, e, x.scr h1⟩
  | .dct ks vs, v, h => by
    simp only [Rep] at h ⊢
    obtain ⟨a, us, e, b, h2, h1⟩ := h
    refine ⟨a, us, e, b, Reps.keeps x h2, ?_⟩
    rcases h1 with ⟨kk, h1, r⟩ | ⟨kk, h1, r⟩
    · exact .inl ⟨kk, x a _ h1 (fun _ z => by cases z), r⟩
    · exact .inr ⟨kk, x a _ h1 (fun _ z => by cases z), r⟩
  | .loc n, v, h => h
  | .fn _, _, h => h
  | .clo _ _, _, h => h
theorem Reps.keeps (x : Keeps H H') : ∀ {ds : List D} {vs : List V}, Reps g B ι H ds vs → Reps g B ι H' ds vs
  | [], _, h => h
  | d :: ds, vs, h => by
    simp only [Reps] at h ⊢
    obtain ⟨v, r, e, h1, h2⟩ := h
    exact ⟨v, r, e, Rep.keeps x h1, Reps.keeps x h2⟩
end
theorem RepF.keeps (x : Keeps H H') : ∀ {fs : List (Str × D)} {vs : List (Str × V)}, RepF g B ι H fs vs → RepF g B ι H' fs vs
  | [], _, h => h
  | p :: ps, vs, h => by
    simp only [RepF] at h ⊢
    obtain ⟨v, r, e, h1, h2⟩ := h
    exact ⟨v, r, e, h1.keeps x, RepF.keeps x h2⟩
theorem RepO.keeps (x : Keeps H H') (ob : Ob) {a : Addr} (h : RepO g B ι H ob a) : RepO g B ι H' ob a := by
  cases ob with
  | lst ds =>
    obtain ⟨vs, h1, h2⟩ := h
    exact ⟨vs, x a _ h1 (fun _ z => by cases z), h2.keeps x⟩
  | ins c fs =>
    obtain ⟨C, dx, vs, e, h1, h2⟩ := h
    exact ⟨C, dx, vs, e, x a _ h1 (fun _ z => by cases z), h2.keeps x⟩
theorem RepX.keeps (x : Keeps H H') {e : Exn} {cls : Value} {dx : Option Addr} (h : RepX g B ι H e cls dx) : RepX g B ι H' e cls dx := by
  obtain ⟨C, e1, e2, h⟩ := h
  refine ⟨C, e1, e2, ?_⟩
  cases ha : e.arg with
  | none => trivial
  | some p =>
    rw [ha] at h
    obtain ⟨d, v, q1, q2, q3⟩ := h
    exact ⟨d, v, q1, x d _ q2 (fun _ z => by cases z), q3.keeps x⟩
end

/-! ### the store and the frame -/
/-- the store as it lies -/
structure Sk (g : G) (ι : List Addr) (B : Addr → Prop) (μ : Sto) (H : Hp) : Prop where
  len : ι.length = μ.length
  nd : ι.Nodup
  inB : ∀ a ∈ ι, B a
  dom : ∀ a, B a → H a ≠ none
  obs : ∀ (n : Nat) (ob : Ob) (a : Addr), μ[n]? = some ob → ι[n]? = some a → RepO g B ι H ob a
  tabs : NdefX.TabsN g.tabs H
/-- where a def was entered -/
structure En where
  ι : List Addr
  B : Addr → Prop
  H : Hp
def SlR (g : G) (B : Addr → Prop) (ι : List Addr) (H : Hp) (o : Option Addr) (s : Sl) (v : Option (Option V)) : Prop :=
  match s with
  | .un => True
  | .val d => ∃ x, v = some (some x) ∧ RepA g B ι H d x
  | .own ds => ∃ a vs, o = some a ∧ v = some (some (.ref a)) ∧ H a = some (.lst vs) ∧ Reps g B ι H ds vs
  | .ownD ks vs => ∃ a us, o = some a ∧ v = some (some (.ref a)) ∧ Reps g B ι H vs us ∧
      ((∃ kk : List Key, H a = some (.dK (kk.zip us)) ∧ ks = kk.map keyD ∧ kk.length = us.length) ∨
       (∃ kk : List (List Key), H a = some (.dT (kk.zip us)) ∧ ks = kk.map (fun k => D.tup (k.map keyD)) ∧ kk.length = us.length))
structure BR (g : G) (e : En) (ι : List Addr) (B : Addr → Prop) (O : Nat → Option Addr) (ρ : Env') (μ : Sto) (σ : L2.St) (H : Hp) : Prop where
  sk : Sk g ι B μ H
  ext : Ext e.ι e.B e.H ι B H
  len : ρ.length = σ.length
  sl : ∀ (i : Nat) (s : Sl), ρ[i]? = some s → SlR g B ι H (O i) s σ[i]?
  ow : ∀ (i : Nat) (a : Addr), O i = some a → B a ∧ a ∉ ι ∧ e.H a = none
  inj : ∀ (i j : Nat) (a : Addr), O i = some a → O j = some a → i = j
/-- more is told -/
theorem Ext.grow {ι : List Addr} {B : Addr → Prop} {H H1 : Hp} (h : ∀ a o, H a = some o → (∀ ps, o ≠ .tbl ps) → H1 a = some o) (d : ∀ a, H1 a = none → H a = none) : Ext ι B H ι B H1 :=
  ⟨⟨[], by simp⟩, fun _ h => .inl h, fun _ h => h, fun _ h => .inl h, fun a o e n => .inl (h a o e n), d⟩
theorem Sk.keeps {g : G} {ι : List Addr} {B : Addr → Prop} {μ : Sto} {H H1 : Hp} (k : Sk g ι B μ H) (x : Keeps H H1) (d : ∀ a, B a → H1 a ≠ none) : Sk g ι B μ H1 := by
  refine ⟨k.len, k.nd, k.inB, d, fun n ob a h1 h2 => RepO.keeps x ob (k.obs n ob a h1 h2), fun p hp => ?_⟩
  obtain ⟨ps, a1, a2, a3⟩ := k.tabs p hp
  refine ⟨ps, x _ _ a1 (fun _ z => by cases z), a2, fun pos cv hc => ?_⟩
  obtain ⟨c, e1, e2⟩ := a3 pos cv hc
  exact ⟨c, e1, x _ _ e2 (fun ob z => by unfold LamX.CodeO FixO at z; cases z)⟩
section
variable {g : G} {e : En} {ι ι' : List Addr} {B B' : Addr → Prop} {O : Nat → Option Addr} {ρ : Env'} {μ μ' : Sto} {σ : L2.St} {H H' : Hp}
theorem BR.step (b : BR g e ι B O ρ μ σ H) (x : Ext ι B H ι' B' H') (k : Sk g ι' B' μ' H') : BR g e ι' B' O ρ μ' σ H' := by
  refine ⟨k, b.ext.trans x, b.len, fun i s h => ?_, fun i a h => ?_, b.inj⟩
  · have q := b.sl i s h
    cases s with
    | un => trivial
    | val d =>
      obtain ⟨v, e1, e2⟩ := q
      exact ⟨v, e1, e2.step (x.two b.sk.inB)⟩
    | own ds =>
      obtain ⟨a, vs, e1, e2, e3, e4⟩ := q
      refine ⟨a, vs, e1, e2, ?_, e4.step (x.two b.sk.inB)⟩
      rcases x.fr a _ e3 (fun _ z => by cases z) with z | ⟨z, _⟩
      · exact z
      · exact absurd z (b.ow i a e1).2.1
    | ownD ks vs =>
      obtain ⟨a, us, e1, e2, e4, e3⟩ := q
      refine ⟨a, us, e1, e2, e4.step (x.two b.sk.inB), ?_⟩
      rcases e3 with ⟨kk, e3, r⟩ | ⟨kk, e3, r⟩
      · rcases x.fr a _ e3 (fun _ z => by cases z) with z | ⟨z, _⟩
        · exact .inl ⟨kk, z, r⟩
        · exact absurd z (b.ow i a e1).2.1
      · rcases x.fr a _ e3 (fun _ z => by cases z) with z | ⟨z, _⟩
        · exact .inr ⟨kk, z, r⟩
        · exact absurd z (b.ow i a e1).2.1
  · obtain ⟨h1, h2, h3⟩ := b.ow i a h
    refine ⟨x.mono a h1, fun z => ?_, h3⟩
    rcases x.newI a z with w | w
    · exact h2 w
    · exact b.sk.dom a h1 w
/-- a new object that never changes -/
theorem Ext.new (hB : ∀ a, B a → H a ≠ none) {p : Addr} {o : HO} (hp : H p = none) : Ext ι B H ι B (upd H p o) :=
  ⟨⟨[], by simp⟩, fun _ h => .inl h, fun _ h => h, fun _ h => .inl h, fun a u h _ => .inl (by rw [upd_ne (ne_of_none h hp)]; exact h), fun a h => by
    by_cases ha : a = p
    · rw [ha]; exact hp
    · rw [upd_ne ha] at h; exact h⟩
theorem TabsN_new {T : List NdefX.NTab} {p : Addr} {o : HO} (t : NdefX.TabsN T H) (hp : H p = none) : NdefX.TabsN T (upd H p o) :=
  t.ext fun b u h => by rw [upd_ne (ne_of_none h hp)]; exact h
theorem RepO.step (x : Ex2 ι B H ι' B' H') (ob : Ob) {a : Addr} (h : RepO g B ι H ob a) (hk : ∀ o, H a = some o → H' a = some o) : RepO g B' ι' H' ob a := by
  cases ob with
  | lst ds =>
    obtain ⟨vs, h1, h2⟩ := h
    exact ⟨vs, hk _ h1, h2.step x⟩
  | ins c fs =>
    obtain ⟨C, dx, vs, e, h1, h2⟩ := h
    exact ⟨C, dx, vs, e, hk _ h1, h2.step x⟩
theorem Sk.new (k : Sk g ι B μ H) {p : Addr} {o : HO} (hp : H p = none) : Sk g ι B μ (upd H p o) :=
  ⟨k.len, k.nd, k.inB, fun a h => by
    by_cases ha : a = p
    · rw [ha, upd_same]; simp
    · rw [upd_ne ha]; exact k.dom a h, fun n ob a h1 h2 => RepO.step ((Ext.new k.dom hp).two k.inB) ob (k.obs n ob a h1 h2) fun u h => by rw [upd_ne (ne_of_none h hp)]; exact h, TabsN_new k.tabs hp⟩
theorem RepT.step (x : Ext ι B H ι' B' H') (k : Sk g ι B μ H) {d : D} {v : V} (h : RepT g B ι H d v) : RepT g B' ι' H' d v := by
  rcases h with h | ⟨ds, a, vs, e1, e2, h1, h2, h3, h4⟩
  · exact .inl (h.step (x.two k.inB))
  · refine .inr ⟨ds, a, vs, e1, e2, ?_, h2.step (x.two k.inB), x.mono a h3, fun z => ?_⟩
    · rcases x.fr a _ h1 (fun _ z => by cases z) with z | ⟨z, _⟩
      · exact z
      · exact absurd z h4
    · rcases x.newI a z with w | w
      · exact h4 w
      · rw [h1] at w; cases w
end
theorem Sk.grow {g : G} {ι : List Addr} {B : Addr → Prop} {μ : Sto} {H H1 : Hp} (k : Sk g ι B μ H) (h : ∀ a o, H a = some o → (∀ ps, o ≠ .tbl ps) → H1 a = some o) (d : ∀ a, H1 a = none → H a = none) (t : NdefX.TabsN g.tabs H1) : Sk g ι B μ H1 := by
  refine ⟨k.len, k.nd, k.inB, fun a b z => k.dom a b (d a z), fun n ob a h1 h2 => ?_, t⟩
  refine RepO.step ((Ext.grow (ι := ι) (B := B) h d).two k.inB) ob (k.obs n ob a h1 h2) fun u e => ?_
  refine h a u e fun ps z => ?_
  subst z
  have q := k.obs n ob a h1 h2
  cases ob with
  | lst ds => obtain ⟨vs, q, _⟩ := q; rw [e] at q; cases q
  | ins c fs => obtain ⟨C, dx, vs, _, q, _⟩ := q; rw [e] at q; cases q
end MP

set_option Elab.async false
set_option linter.all false
set_option maxRecDepth 100000
set_option maxHeartbeats 4000000
/-! readings that tell what a state-passing function gives -/
namespace MP
open PySem PySem.Spec PyProof.Rows L2

def Rs.bind {α β : Type} (r : Rs α) (f : α → Sto → Rs β) : Rs β := match r with
  | .ok a μ => f a μ
  | .ex e μ => .ex e μ
  | .er => .er
def opt {α : Type} (o : Option α) (μ : Sto) : Rs α := match o with
  | some a => .ok a μ
  | none => .er
abbrev Ex (α : Type) := Env' → Sto → Rs α

section
variable (g : G) (W : WX)
/-- what is wanted behind r -/
def Post {α β : Type} (R : (Addr → Prop) → List Addr → Hp → α → β → Prop) (e : En) (O : Nat → Option Addr) (ρ : Env') (σ : L2.St) (ι : List Addr) (B : Addr → Prop) (H : Hp) (r : Rs α) (Q : β → Hp → Prop) : Prop :=
  match r with
  | .ok d μ' => ∀ v ι' B' H', Ext ι B H ι' B' H' → BR g e ι' B' O ρ μ' σ H' → R B' ι' H' d v → Q v H'
  | .ex x μ' => ∀ cls dx ι' B' H', Ext ι B H ι' B' H' → BR g e ι' B' O ρ μ' σ H' → RepX g B' ι' H' x cls dx → W cls dx σ H'
  | .er => False
def sem {α β : Type} (R : (Addr → Prop) → List Addr → Hp → α → β → Prop) (m : Ex α) : L2.St → Hp → (β → Hp → Prop) → Prop := fun σ H Q =>
  ∃ e ι B O ρ μ, BR g e ι B O ρ μ σ H ∧ Post g W R e O ρ σ ι B H (m ρ μ) Q
abbrev RB : (Addr → Prop) → List Addr → Hp → Bool → Bool → Prop := fun _ _ _ b b' => b = b'
abbrev RD : (Addr → Prop) → List Addr → Hp → D → V → Prop := fun B ι H d v => Rep g B ι H d v
abbrev RT : (Addr → Prop) → List Addr → Hp → D → V → Prop := fun B ι H d v => RepT g B ι H d v
abbrev RAs : (Addr → Prop) → List Addr → Hp → List D → List V → Prop := fun B ι H d v => RepAs g B ι H d v
def RepTs (B : Addr → Prop) (ι : List Addr) (H : Hp) : List D → List V → Prop
  | [], vs => vs = []
  | d :: ds, vs => ∃ v r, vs = v :: r ∧ RepT g B ι H d v ∧ RepTs B ι H ds r
abbrev RTs : (Addr → Prop) → List Addr → Hp → List D → List V → Prop := fun B ι H d v => RepTs g B ι H d v
end
abbrev sE (g : G) (W : WX) (m : Ex D) : TE := sem g W (RD g) m
abbrev sT (g : G) (W : WX) (m : Ex D) : TE := sem g W (RT g) m
abbrev sC (g : G) (W : WX) (m : Ex Bool) : TT := sem g W RB m
abbrev sA (g : G) (W : WX) (m : Ex (List D)) : TA := sem g W (RAs g) m
abbrev sAt (g : G) (W : WX) (m : Ex (List D)) : TA := sem g W (RTs g) m

section
variable {g : G} {W : WX} {e : En} {ι ι' : List Addr} {B B' : Addr → Prop} {O : Nat → Option Addr} {ρ : Env'} {μ μ' : Sto} {σ : L2.St} {H H' : Hp}
theorem Post.later {α β : Type} {R : (Addr → Prop) → List Addr → Hp → α → β → Prop} {r : Rs α} {Q : β → Hp → Prop} (x : Ext ι B H ι' B' H') (p : Post g W R e O ρ σ ι B H r Q) : Post g W R e O ρ σ ι' B' H' r Q := by
  cases r with
  | ok d μ' => exact fun v ι2 B2 H2 y => p v ι2 B2 H2 (x.trans y)
  | ex d μ' => exact fun c dx ι2 B2 H2 y => p c dx ι2 B2 H2 (x.trans y)
  | er => exact p
theorem Post.imp {α β : Type} {R : (Addr → Prop) → List Addr → Hp → α → β → Prop} {r : Rs α} {Q Q' : β → Hp → Prop} (p : Post g W R e O ρ σ ι B H r Q) (h : ∀ v H, Q v H → Q' v H) : Post g W R e O ρ σ ι B H r Q' := by
  cases r with
  | ok d μ' => exact fun v ι2 B2 H2 x b q => h _ _ (p v ι2 B2 H2 x b q)
  | ex d μ' => exact p
  | er => exact p
theorem Post.bind {α β γ δ : Type} {R : (Addr → Prop) → List Addr → Hp → α → β → Prop} {R2 : (Addr → Prop) → List Addr → Hp → γ → δ → Prop} {r : Rs α} {f : α → Sto → Rs γ} {Q : δ → Hp → Prop}
    (p : Post g W R2 e O ρ σ ι B H (r.bind f) Q) : Post g W R e O ρ σ ι B H r (fun v H1 => ∃ a ι1 B1 μ1, Ext ι B H ι1 B1 H1 ∧ BR g e ι1 B1 O ρ μ1 σ H1 ∧ R B1 ι1 H1 a v ∧ Post g W R2 e O ρ σ ι1 B1 H1 (f a μ1) Q) := by
  cases r with
  | ok d μ' => exact fun v ι2 B2 H2 y b q => ⟨d, ι2, B2, μ', y, b, q, Post.later y p⟩
  | ex d μ' => exact p
  | er => exact p
/-- weaker readings -/
theorem imE {X : Cx} {a : Expr} {t t' : TE} (h : PE X a t) (i : ∀ σ H Q, t' σ H Q → t σ H Q) : PE X a t' := ⟨fun p s σ H Q I q => h.run p s σ H Q I (i _ _ _ q)⟩
theorem imT {X : Cx} {a : Expr} {t t' : TT} (h : PT X a t) (i : ∀ σ H Q, t' σ H Q → t σ H Q) : PT X a t' := ⟨fun p s σ H Q I q => h.run p s σ H Q I (i _ _ _ q)⟩
theorem imA {X : Cx} {a : List Expr} {t t' : TA} (h : PA X a t) (i : ∀ σ H Q, t' σ H Q → t σ H Q) : PA X a t' := ⟨fun pos p s σ H Q I q => h.run pos p s σ H Q I (i _ _ _ q)⟩
theorem imS {X : Cx} {a : Stmt} {t t' : TS} (h : PS X a t) (i : ∀ D σ H, t' D σ H → t D σ H) : PS X a t' := ⟨fun p s σ H D I q => h.run p s σ H D I (i _ _ _ q)⟩
theorem imSs {X : Cx} {a : List Stmt} {t t' : TS} (h : PSs X a t) (i : ∀ D σ H, t' D σ H → t D σ H) : PSs X a t' := ⟨fun p s σ H D I q => h.run p s σ H D I (i _ _ _ q)⟩

theorem RepT.of {d : D} {v : V} (h : Rep g B ι H d v) : RepT g B ι H d v := .inl h
end

/-! ### names, constants -/
def mC (d : D) : Ex D := fun _ μ => .ok d μ
section
variable {g : G} {W : WX} {X : Cx}
def isClo : D → Bool
  | .clo _ _ => true
  | _ => false
theorem RepA.val {g : G} {B : Addr → Prop} {ι : List Addr} {H : Hp} {d : D} {v : V} (h : RepA g B ι H d v) (n : isClo d = false) : Rep g B ι H d v := by
  rcases h with h | h
  · exact h
  · cases d <;> simp_all [RepC, isClo]
def mVal (i : Nat) : Ex D := fun ρ μ => match ρ[i]? with
  | some (.val d) => if isClo d then .er else .ok d μ
  | _ => .er
theorem e_var {i : Nat} {a : Expr} (h : PE X a (tVar i)) : PE X a (sE g W (mVal i)) := imE h fun σ H Q q => by
  obtain ⟨e, ι, B, O, ρ, μ, b, p⟩ := q
  unfold mVal at p
  split at p
  · rename_i d hd
    split at p
    · exact p.elim
    · rename_i hc
      obtain ⟨v, e1, e2⟩ := b.sl i _ hd
      exact ⟨v, e1, p v ι B H (.refl _ _ _) b (e2.val (by simpa using hc))⟩
  · exact p.elim
def mPk (i : Nat) : Ex D := fun ρ μ => match ρ[i]? with
  | some (.val d) => if isClo d then .er else .ok d μ
  | some (.own ds) => .ok (.lst ds) μ
  | _ => .er
theorem e_peek {i : Nat} {a : Expr} (h : PE X a (tVar i)) : PE X a (sT g W (mPk i)) := imE h fun σ H Q q => by
  obtain ⟨e, ι, B, O, ρ, μ, b, p⟩ := q
  unfold mPk at p
  split at p
  · rename_i d hd
    split at p
    · exact p.elim
    · rename_i hc
      obtain ⟨v, e1, e2⟩ := b.sl i _ hd
      exact ⟨v, e1, p v ι B H (.refl _ _ _) b (.inl (e2.val (by simpa using hc)))⟩
  · rename_i ds hd
    obtain ⟨a, vs, e0, e1, e2, e3⟩ := b.sl i _ hd
    exact ⟨_, e1, p _ ι B H (.refl _ _ _) b (.inr ⟨ds, a, vs, rfl, rfl, e2, e3, (b.ow i a e0).1, (b.ow i a e0).2.1⟩)⟩
  · exact p.elim
/-- a value where a look is enough -/
theorem e_look {m : Ex D} {a : Expr} (h : PE X a (sE g W m)) : PE X a (sT g W m) := imE h fun σ H Q q => by
  obtain ⟨e, ι, B, O, ρ, μ, b, p⟩ := q
  refine ⟨e, ι, B, O, ρ, μ, b, ?_⟩
  cases hm : m ρ μ with
  | ok d μ' => rw [hm] at p; exact fun v ι' B' H' x b' r => p v ι' B' H' x b' (.inl r)
  | ex d μ' => rw [hm] at p; exact p
  | er => rw [hm] at p; exact p
theorem e_const {d : D} {v : V} {a : Expr} (h : PE X a (tC v)) (r : ∀ B ι H, Rep g B ι H d v) : PE X a (sE g W (mC d)) := imE h fun σ H Q q => by
  obtain ⟨e, ι, B, O, ρ, μ, b, p⟩ := q
  exact p v ι B H (.refl _ _ _) b (r _ _ _)
theorem e_int {i : Int} {j pos} : PE X (.Constant (.int i) j pos) (sE g W (mC (.int i))) := e_const pe_int fun _ _ _ => by simp [Rep]
theorem e_bl {i : Bool} {j pos} : PE X (.Constant (.bool i) j pos) (sE g W (mC (.bl i))) := e_const pe_bl fun _ _ _ => by simp [Rep]
theorem e_non {j pos} : PE X (.Constant .none j pos) (sE g W (mC .non)) := e_const pe_non fun _ _ _ => by simp [Rep]
theorem e_str {x : Str} {j pos} : PE X (.Constant (.str x) j pos) (sE g W (mC (.str x))) := e_const pe_str fun _ _ _ => by simp [Rep]
end

/-! ### operators -/
section
variable {g : G} {W : WX} {X : Cx}
/-- an operation on data, by a rule on values -/
def VOp (g : G) (r : R2) (op : Sto → D → D → Option D) : Prop :=
  ∀ (ι : List Addr) (B : Addr → Prop) (μ : Sto) (H : Hp) (x y : D) (vx vy : V) (d : D) (Q : VK), Sk g ι B μ H → RepT g B ι H x vx → RepT g B ι H y vy → op μ x y = some d →
    (∀ v H', Ext ι B H ι B H' → Sk g ι B μ H' → Rep g B ι H' d v → Q v H') → r vx vy H Q
def VUn (g : G) (r : V → Hp → VK → Prop) (op : Sto → D → Option D) : Prop :=
  ∀ (ι : List Addr) (B : Addr → Prop) (μ : Sto) (H : Hp) (x : D) (vx : V) (d : D) (Q : VK), Sk g ι B μ H → RepT g B ι H x vx → op μ x = some d →
    (∀ v H', Ext ι B H ι B H' → Sk g ι B μ H' → Rep g B ι H' d v → Q v H') → r vx H Q
def VCall (g : G) (r : List V → Hp → VK → Prop) (op : Sto → List D → Option D) : Prop :=
  ∀ (ι : List Addr) (B : Addr → Prop) (μ : Sto) (H : Hp) (xs : List D) (vs : List V) (d : D) (Q : VK), Sk g ι B μ H → RepTs g B ι H xs vs → op μ xs = some d →
    (∀ v H', Ext ι B H ι B H' → Sk g ι B μ H' → Rep g B ι H' d v → Q v H') → r vs H Q
def VMt (g : G) (r : V → List V → Hp → VK → Prop) (op : Sto → D → List D → Option D) : Prop :=
  ∀ (ι : List Addr) (B : Addr → Prop) (μ : Sto) (H : Hp) (x : D) (vx : V) (xs : List D) (vs : List V) (d : D) (Q : VK), Sk g ι B μ H → RepT g B ι H x vx → RepTs g B ι H xs vs → op μ x xs = some d →
    (∀ v H', Ext ι B H ι B H' → Sk g ι B μ H' → Rep g B ι H' d v → Q v H') → r vx vs H Q

def m2 (op : Sto → D → D → Option D) (a b : Ex D) : Ex D := fun ρ μ => (a ρ μ).bind fun x μ1 => (b ρ μ1).bind fun y μ2 => opt (op μ2 x y) μ2
def m1 (op : Sto → D → Option D) (a : Ex D) : Ex D := fun ρ μ => (a ρ μ).bind fun x μ1 => opt (op μ1 x) μ1
def mNil : Ex (List D) := fun _ μ => .ok [] μ
def mCons (a : Ex D) (b : Ex (List D)) : Ex (List D) := fun ρ μ => (a ρ μ).bind fun x μ1 => (b ρ μ1).bind fun xs μ2 => .ok (x :: xs) μ2
def mCall (op : Sto → List D → Option D) (as : Ex (List D)) : Ex D := fun ρ μ => (as ρ μ).bind fun xs μ1 => opt (op μ1 xs) μ1
def mMt (op : Sto → D → List D → Option D) (a : Ex D) (as : Ex (List D)) : Ex D := fun ρ μ => (a ρ μ).bind fun x μ1 => (as ρ μ1).bind fun xs μ2 => opt (op μ2 x xs) μ2

theorem Post.opt {e : En} {ι : List Addr} {B : Addr → Prop} {O : Nat → Option Addr} {ρ : Env'} {μ : Sto} {σ : L2.St} {H : Hp} {α β : Type} {R : (Addr → Prop) → List Addr → Hp → α → β → Prop} {o : Option α} {Q : β → Hp → Prop}
    (p : Post g W R e O ρ σ ι B H (opt o μ) Q) (b : BR g e ι B O ρ μ σ H) : ∃ d, o = some d ∧ ∀ v H', Ext ι B H ι B H' → Sk g ι B μ H' → R B ι H' d v → Q v H' := by
  cases o with
  | none => exact p.elim
  | some d => exact ⟨d, rfl, fun v H' x k r => p v ι B H' x (b.step x k) r⟩
theorem op2 {r : R2} {op : Sto → D → D → Option D} (vo : VOp g r op) {a b : Ex D} : ∀ σ H Q, sE g W (m2 op a b) σ H Q → tOp r (sT g W a) (sT g W b) σ H Q := fun σ H Q q => by
  obtain ⟨e, ι, B, O, ρ, μ, b1, p⟩ := q
  refine ⟨e, ι, B, O, ρ, μ, b1, (Post.bind (R := RT g) p).imp fun vx H1 ⟨x, ι1, B1, μ1, x1, b1, r1, p1⟩ => ?_⟩
  refine ⟨e, ι1, B1, O, ρ, μ1, b1, (Post.bind (R := RT g) p1).imp fun vy H2 ⟨y, ι2, B2, μ2, x2, b2, r2, p2⟩ => ?_⟩
  obtain ⟨d, hd, q⟩ := p2.opt b2
  exact vo ι2 B2 μ2 H2 x y vx vy d Q b2.sk (r1.step x2 b1.sk) r2 hd q
theorem e_bin {o : Operator} {r : R2} {op : Sto → D → D → Option D} {a b : Expr} {ma mb : Ex D} {pos : Pos} (ho : OpR X (binaryOp o) r) (vo : VOp g r op) (ha : PE X a (sT g W ma)) (hb : PE X b (sT g W mb)) : PE X (.BinOp a o b pos) (sE g W (m2 op ma mb)) :=
  imE (pe_op ho ha hb) (op2 vo)
theorem e_cmp {o : CmpOp} {r : R2} {op : Sto → D → D → Option D} {a b : Expr} {ma mb : Ex D} {pos : Pos} (ho : OpR X (compareOp o) r) (vo : VOp g r op) (ha : PE X a (sT g W ma)) (hb : PE X b (sT g W mb)) (hm : behindInMarks o b = false) : PE X (.Compare a [o] [b] pos) (sE g W (m2 op ma mb)) :=
  imE (pe_cmpR ho ha hb hm) (op2 vo)
theorem e_ix {r : R2} {op : Sto → D → D → Option D} {a b : Expr} {ma mb : Ex D} {pos : Pos} (ho : IxR X r) (vo : VOp g r op) (ha : PE X a (sT g W ma)) (hb : PE X b (sT g W mb)) (hs : PlainIx b) : PE X (.Subscript a b pos) (sE g W (m2 op ma mb)) :=
  imE (pe_ix ho ha hb hs) (op2 vo)
theorem e_un {o : UnaryOp} {r : V → Hp → VK → Prop} {op : Sto → D → Option D} {a : Expr} {ma : Ex D} {pos : Pos} (ho : UnR X (unaryOp o) r) (vo : VUn g r op) (ha : PE X a (sT g W ma)) : PE X (.UnaryOp o a pos) (sE g W (m1 op ma)) :=
  imE (pe_un ho ha) fun σ H Q q => by
    obtain ⟨e, ι, B, O, ρ, μ, b1, p⟩ := q
    refine ⟨e, ι, B, O, ρ, μ, b1, (Post.bind (R := RT g) p).imp fun vx H1 ⟨x, ι1, B1, μ1, x1, b1, r1, p1⟩ => ?_⟩
    obtain ⟨d, hd, q⟩ := p1.opt b1
    exact vo ι1 B1 μ1 H1 x vx d Q b1.sk r1 hd q
theorem RepTs.step {ι ι' : List Addr} {B B' : Addr → Prop} {H H' : Hp} {μ : Sto} (x : Ext ι B H ι' B' H') (k : Sk g ι B μ H) : ∀ {xs : List D} {vs : List V}, RepTs g B ι H xs vs → RepTs g B' ι' H' xs vs
  | [], _, h => h
  | d :: ds, vs, h => by
    simp only [RepTs] at h ⊢
    obtain ⟨v, r, e, h1, h2⟩ := h
    exact ⟨v, r, e, h1.step x k, RepTs.step x k h2⟩
theorem a_nil : PA X [] (sAt g W mNil) := imA pa_nil fun σ H Q q => by
  obtain ⟨e, ι, B, O, ρ, μ, b1, p⟩ := q
  exact p [] ι B H (.refl _ _ _) b1 rfl
theorem a_cons {a : Expr} {as : List Expr} {ma : Ex D} {ms : Ex (List D)} (ha : PE X a (sT g W ma)) (hs : PA X as (sAt g W ms)) (hst : starEach (a :: as) X.env = (false, eval a X.env) :: starEach as X.env := by rfl) : PA X (a :: as) (sAt g W (mCons ma ms)) :=
  imA (pa_cons ha hs hst) fun σ H Q q => by
    obtain ⟨e, ι, B, O, ρ, μ, b1, p⟩ := q
    refine ⟨e, ι, B, O, ρ, μ, b1, (Post.bind (R := RT g) p).imp fun vx H1 ⟨x, ι1, B1, μ1, x1, b1, r1, p1⟩ => ?_⟩
    refine ⟨e, ι1, B1, O, ρ, μ1, b1, (Post.bind (R := RTs g) p1).imp fun vs H2 ⟨xs, ι2, B2, μ2, x2, b2, r2, p2⟩ => ?_⟩
    exact p2 (vx :: vs) ι2 B2 H2 (.refl _ _ _) b2 ⟨vx, vs, rfl, r1.step x2 b1.sk, r2⟩
theorem callT {r : List V → Hp → VK → Prop} {op : Sto → List D → Option D} (vo : VCall g r op) {as : Ex (List D)} : ∀ σ H Q, sE g W (mCall op as) σ H Q → tCB r (sAt g W as) σ H Q := fun σ H Q q => by
  obtain ⟨e, ι, B, O, ρ, μ, b1, p⟩ := q
  refine ⟨e, ι, B, O, ρ, μ, b1, (Post.bind (R := RTs g) p).imp fun vs H1 ⟨xs, ι1, B1, μ1, x1, b1, r1, p1⟩ => ?_⟩
  obtain ⟨d, hd, q⟩ := p1.opt b1
  exact vo ι1 B1 μ1 H1 xs vs d Q b1.sk r1 hd q
/-- f(..), f a built-in function; T(..), T a built-in class -/
theorem e_callB {x : Str} {id : String} {r : List V → Hp → VK → Prop} {op : Sto → List D → Option D} {a : Expr} {as : List Expr} {ms : Ex (List D)} {p pos : Pos} (hc : CallR X (.builtin id) r) (vo : VCall g r op) (hg : Gl X x) (hm : X.mg x = none) (hv : bootBuiltins x = some (.builtin id)) (ha : PA X (a :: as) (sAt g W ms))
    (hn : x ≠ "__name__" := by decide) (hdb : (x == ("__debug__" : Str)) = false := by decide) (he : starEach (a :: as) X.env = (false, eval a X.env) :: starEach as X.env := by rfl) (hpl : (backTo pos (starEach as X.env)).any (·.1) = false := by rfl) : PE X (.Call (.Name x p) (a :: as) [] pos) (sE g W (mCall op ms)) :=
  imE (pe_callB hc hg hm hv ha hn hdb he hpl) (callT vo)
theorem e_callTy {x : Str} {id : String} {r : List V → Hp → VK → Prop} {op : Sto → List D → Option D} {a : Expr} {as : List Expr} {ms : Ex (List D)} {p pos : Pos} (hc : CallR X (.type id) r) (vo : VCall g r op) (hg : Gl X x) (hm : X.mg x = none) (hv : bootBuiltins x = some (.type id)) (ha : PA X (a :: as) (sAt g W ms))
    (hn : x ≠ "__name__" := by decide) (hdb : (x == ("__debug__" : Str)) = false := by decide) (he : starEach (a :: as) X.env = (false, eval a X.env) :: starEach as X.env := by rfl) (hpl : (backTo pos (starEach as X.env)).any (·.1) = false := by rfl) : PE X (.Call (.Name x p) (a :: as) [] pos) (sE g W (mCall op ms)) :=
  imE (pe_callTy hc hg hm hv ha hn hdb he hpl) (callT vo)

/-! ### tests -/
def mB (a : Ex D) : Ex Bool := fun ρ μ => (a ρ μ).bind fun x μ1 => match x with
  | .bl b => .ok b μ1
  | _ => .er
def mNot (a : Ex Bool) : Ex Bool := fun ρ μ => (a ρ μ).bind fun x μ1 => .ok (!x) μ1
def mAnd (a b : Ex Bool) : Ex Bool := fun ρ μ => (a ρ μ).bind fun x μ1 => if x = true then b ρ μ1 else .ok false μ1
def mOr (a b : Ex Bool) : Ex Bool := fun ρ μ => (a ρ μ).bind fun x μ1 => if x = true then .ok true μ1 else b ρ μ1
theorem tstB {m : Ex D} : ∀ σ H Q, sC g W (mB m) σ H Q → tTest (sE g W m) σ H Q := fun σ H Q q => by
  obtain ⟨e, ι, B, O, ρ, μ, b1, p⟩ := q
  refine ⟨e, ι, B, O, ρ, μ, b1, (Post.bind (R := RD g) p).imp fun vx H1 ⟨x, ι1, B1, μ1, x1, b1, r1, p1⟩ => ?_⟩
  cases x with
  | bl k => exact ⟨k, by simpa [Rep] using r1, p1 k ι1 B1 H1 (.refl _ _ _) b1 rfl⟩
  | _ => exact p1.elim
/-- an expression whose value is a bool, as a test -/
theorem t_val {a : Expr} {m : Ex D} (h : PE X a (sE g W m)) (he : ∀ whole, isTrue a X.env whole = (do let v ← whole; standAt a.pos; holding [v] (truthy v)) := by intro _; rfl) : PT X a (sC g W (mB m)) := imT (pt_val h he) tstB
theorem t_cmp {o : CmpOp} {r : R2} {op : Sto → D → D → Option D} {a b : Expr} {ma mb : Ex D} {pos : Pos} (ho : OpR X (compareOp o) r) (vo : VOp g r op) (ha : PE X a (sT g W ma)) (hb : PE X b (sT g W mb)) (hm : behindInMarks o b = false) : PT X (.Compare a [o] [b] pos) (sC g W (mB (m2 op ma mb))) :=
  imT (pt_cmpR ho ha hb hm) fun σ H Q q => by
    obtain ⟨e, ι, B, O, ρ, μ, b1, p⟩ := q
    refine op2 (W := W) vo σ H _ ⟨e, ι, B, O, ρ, μ, b1, (Post.bind (R := RD g) p).imp fun vx H1 ⟨x, ι1, B1, μ1, x1, b1, r1, p1⟩ => ?_⟩
    cases x with
    | bl k => exact ⟨k, by simpa [Rep] using r1, p1 k ι1 B1 H1 (.refl _ _ _) b1 rfl⟩
    | _ => exact p1.elim
theorem t_not {a : Expr} {m : Ex Bool} {pos : Pos} (h : PT X a (sC g W m)) : PT X (.UnaryOp .Not a pos) (sC g W (mNot m)) := imT (pt_not h) fun σ H Q q => by
  obtain ⟨e, ι, B, O, ρ, μ, b1, p⟩ := q
  refine ⟨e, ι, B, O, ρ, μ, b1, (Post.bind (R := RB) p).imp fun vx H1 ⟨x, ι1, B1, μ1, x1, b1, r1, p1⟩ => ?_⟩
  cases r1
  exact p1 _ ι1 B1 H1 (.refl _ _ _) b1 rfl
theorem imW {X : Cx} {a : Expr} {t t' : TT} (h : PW X a t) (i : ∀ σ H Q, t' σ H Q → t σ H Q) : PW X a t' := ⟨fun wh p s σ H Q I q => h.run wh p s σ H Q I (i _ _ _ q)⟩
theorem w_and1 {a : Expr} {m : Ex Bool} {pos : Pos} (h : PT X a (sC g W m)) : PW X (.BoolOp .And [a] pos) (sC g W m) := pw_and1 h
theorem w_or1 {a : Expr} {m : Ex Bool} {pos : Pos} (h : PT X a (sC g W m)) : PW X (.BoolOp .Or [a] pos) (sC g W m) := pw_or1 h
theorem w_and {a b : Expr} {rest : List Expr} {m n : Ex Bool} {pos : Pos} (h : PT X a (sC g W m)) (h2 : PW X (.BoolOp .And (b :: rest) pos) (sC g W n)) : PW X (.BoolOp .And (a :: b :: rest) pos) (sC g W (mAnd m n)) := imW (pw_and h h2) fun σ H Q q => by
  obtain ⟨e, ι, B, O, ρ, μ, b1, p⟩ := q
  refine ⟨e, ι, B, O, ρ, μ, b1, (Post.bind (R := RB) p).imp fun vx H1 ⟨x, ι1, B1, μ1, x1, b1, r1, p1⟩ => ?_⟩
  obtain rfl : x = vx := r1
  cases x with
  | true => exact ⟨e, ι1, B1, O, ρ, μ1, b1, p1⟩
  | false => exact p1 _ ι1 B1 H1 (.refl _ _ _) b1 rfl
theorem w_or {a b : Expr} {rest : List Expr} {m n : Ex Bool} {pos : Pos} (h : PT X a (sC g W m)) (h2 : PW X (.BoolOp .Or (b :: rest) pos) (sC g W n)) : PW X (.BoolOp .Or (a :: b :: rest) pos) (sC g W (mOr m n)) := imW (pw_or h h2) fun σ H Q q => by
  obtain ⟨e, ι, B, O, ρ, μ, b1, p⟩ := q
  refine ⟨e, ι, B, O, ρ, μ, b1, (Post.bind (R := RB) p).imp fun vx H1 ⟨x, ι1, B1, μ1, x1, b1, r1, p1⟩ => ?_⟩
  obtain rfl : x = vx := r1
  cases x with
  | false => exact ⟨e, ι1, B1, O, ρ, μ1, b1, p1⟩
  | true => exact p1 _ ι1 B1 H1 (.refl _ _ _) b1 rfl
/-- and, or, not of bools as values -/
def mAndV (a b : Ex D) : Ex D := fun ρ μ => (a ρ μ).bind fun x μ1 => match x with
  | .bl true => b ρ μ1
  | .bl false => .ok (.bl false) μ1
  | _ => .er
def mOrV (a b : Ex D) : Ex D := fun ρ μ => (a ρ μ).bind fun x μ1 => match x with
  | .bl true => .ok (.bl true) μ1
  | .bl false => b ρ μ1
  | _ => .er
def mNotV (a : Ex D) : Ex D := fun ρ μ => (a ρ μ).bind fun x μ1 => match x with
  | .bl b => .ok (.bl (!b)) μ1
  | _ => .er
theorem e_one {o} {a : Expr} {m : Ex D} {pos : Pos} (h : PE X a (sE g W m)) : PE X (.BoolOp o [a] pos) (sE g W m) := pe_one h
theorem e_and {a b : Expr} {rest : List Expr} {m n : Ex D} {pos : Pos} (h : PE X a (sE g W m)) (h2 : PE X (.BoolOp .And (b :: rest) pos) (sE g W n)) : PE X (.BoolOp .And (a :: b :: rest) pos) (sE g W (mAndV m n)) := imE (pe_and h h2) fun σ H Q q => by
  obtain ⟨e, ι, B, O, ρ, μ, b1, p⟩ := q
  refine ⟨e, ι, B, O, ρ, μ, b1, (Post.bind (R := RD g) p).imp fun vx H1 ⟨x, ι1, B1, μ1, x1, b1, r1, p1⟩ => ?_⟩
  cases x with
  | bl k =>
    refine ⟨k, by simpa [Rep] using r1, ?_⟩
    cases k with
    | true => exact ⟨e, ι1, B1, O, ρ, μ1, b1, p1⟩
    | false => exact p1 _ ι1 B1 H1 (.refl _ _ _) b1 (by simp [Rep])
  | _ => exact p1.elim
theorem e_or {a b : Expr} {rest : List Expr} {m n : Ex D} {pos : Pos} (h : PE X a (sE g W m)) (h2 : PE X (.BoolOp .Or (b :: rest) pos) (sE g W n)) : PE X (.BoolOp .Or (a :: b :: rest) pos) (sE g W (mOrV m n)) := imE (pe_or h h2) fun σ H Q q => by
  obtain ⟨e, ι, B, O, ρ, μ, b1, p⟩ := q
  refine ⟨e, ι, B, O, ρ, μ, b1, (Post.bind (R := RD g) p).imp fun vx H1 ⟨x, ι1, B1, μ1, x1, b1, r1, p1⟩ => ?_⟩
  cases x with
  | bl k =>
    refine ⟨k, by simpa [Rep] using r1, ?_⟩
    cases k with
    | false => exact ⟨e, ι1, B1, O, ρ, μ1, b1, p1⟩
    | true => exact p1 _ ι1 B1 H1 (.refl _ _ _) b1 (by simp [Rep])
  | _ => exact p1.elim
theorem e_not {a : Expr} {m : Ex D} {pos : Pos} (h : PE X a (sE g W m)) : PE X (.UnaryOp .Not a pos) (sE g W (mNotV m)) := imE (pe_not h) fun σ H Q q => by
  obtain ⟨e, ι, B, O, ρ, μ, b1, p⟩ := q
  refine ⟨e, ι, B, O, ρ, μ, b1, (Post.bind (R := RD g) p).imp fun vx H1 ⟨x, ι1, B1, μ1, x1, b1, r1, p1⟩ => ?_⟩
  cases x with
  | bl k => exact ⟨k, by simpa [Rep] using r1, p1 _ ι1 B1 H1 (.refl _ _ _) b1 (by simp [Rep])⟩
  | _ => exact p1.elim
/-- a if c else b -/
def mIfE {α : Type} (c : Ex Bool) (a b : Ex α) : Ex α := fun ρ μ => (c ρ μ).bind fun x μ1 => if x = true then a ρ μ1 else b ρ μ1
theorem e_if {c a b : Expr} {mc : Ex Bool} {ma mb : Ex D} {pos : Pos} (hc : PT X c (sC g W mc)) (ha : PE X a (sE g W ma)) (hb : PE X b (sE g W mb)) : PE X (.IfExp c a b pos) (sE g W (mIfE mc ma mb)) := imE (pe_ifExp hc ha hb) fun σ H Q q => by
  obtain ⟨e, ι, B, O, ρ, μ, b1, p⟩ := q
  refine ⟨e, ι, B, O, ρ, μ, b1, (Post.bind (R := RB) p).imp fun vx H1 ⟨x, ι1, B1, μ1, x1, b1, r1, p1⟩ => ?_⟩
  obtain rfl : x = vx := r1
  cases x with
  | true => exact ⟨e, ι1, B1, O, ρ, μ1, b1, p1⟩
  | false => exact ⟨e, ι1, B1, O, ρ, μ1, b1, p1⟩
end

/-! ### statements -/
section
variable (g : G) (W : WX)
def SPost (e : En) (ι : List Addr) (B : Addr → Prop) (H : Hp) (r : SRs) (D' : Ends) : Prop :=
  match r with
  | .nx ρ μ => ∀ ι' B' O' σ' H', Ex2 ι B H ι' B' H' → BR g e ι' B' O' ρ μ σ' H' → D'.nx σ' H'
  | .rt d μ => ∀ v ι' B' H', Sk g ι' B' μ H' → Ext e.ι e.B e.H ι' B' H' → Rep g B' ι' H' d v → D'.rt v H'
  | .bk ρ μ => ∀ ι' B' O' σ' H', Ex2 ι B H ι' B' H' → BR g e ι' B' O' ρ μ σ' H' → D'.bk σ' H'
  | .ct ρ μ => ∀ ι' B' O' σ' H', Ex2 ι B H ι' B' H' → BR g e ι' B' O' ρ μ σ' H' → D'.ct σ' H'
  | .ex x ρ μ => ∀ cls dx ι' B' O' σ' H', Ex2 ι B H ι' B' H' → BR g e ι' B' O' ρ μ σ' H' → RepX g B' ι' H' x cls dx → W cls dx σ' H'
  | .er => False
def sS (m : Env' → Sto → SRs) : TS := fun D' σ H => ∃ e ι B O ρ μ, BR g e ι B O ρ μ σ H ∧ SPost g W e ι B H (m ρ μ) D'
end
abbrev Sm := Env' → Sto → SRs
section
variable {g : G} {W : WX} {X : Cx} {e : En} {ι ι' : List Addr} {B B' : Addr → Prop} {O : Nat → Option Addr} {ρ : Env'} {μ μ' : Sto} {σ : L2.St} {H H' : Hp}
theorem SPost.later {r : SRs} {D' : Ends} (x : Ex2 ι B H ι' B' H') (p : SPost g W e ι B H r D') : SPost g W e ι' B' H' r D' := by
  cases r with
  | nx ρ μ => exact fun ι2 B2 O2 σ2 H2 y => p ι2 B2 O2 σ2 H2 (x.trans y)
  | rt d μ => exact p
  | bk ρ μ => exact fun ι2 B2 O2 σ2 H2 y => p ι2 B2 O2 σ2 H2 (x.trans y)
  | ct ρ μ => exact fun ι2 B2 O2 σ2 H2 y => p ι2 B2 O2 σ2 H2 (x.trans y)
  | ex x' ρ μ => exact fun c dx ι2 B2 O2 σ2 H2 y => p c dx ι2 B2 O2 σ2 H2 (x.trans y)
  | er => exact p
def mSkip : Sm := fun ρ μ => .nx ρ μ
def mSeq (a b : Sm) : Sm := fun ρ μ => match a ρ μ with
  | .nx ρ' μ' => b ρ' μ'
  | r => r
def Rs.s {α : Type} (r : Rs α) (ρ : Env') (f : α → Sto → SRs) : SRs := match r with
  | .ok a μ => f a μ
  | .ex e μ => .ex e ρ μ
  | .er => .er
theorem SPost.bind {α β : Type} {R : (Addr → Prop) → List Addr → Hp → α → β → Prop} {r : Rs α} {f : α → Sto → SRs} {D' : Ends} (b : BR g e ι B O ρ μ σ H) (p : SPost g W e ι B H (r.s ρ f) D') :
    Post g W R e O ρ σ ι B H r (fun v H1 => ∃ a ι1 B1 μ1, Ext ι B H ι1 B1 H1 ∧ BR g e ι1 B1 O ρ μ1 σ H1 ∧ R B1 ι1 H1 a v ∧ SPost g W e ι1 B1 H1 (f a μ1) D') := by
  cases r with
  | ok d μ' => exact fun v ι2 B2 H2 y b' q => ⟨d, ι2, B2, μ', y, b', q, SPost.later (y.two b.sk.inB) p⟩
  | ex d μ' => exact fun c dx ι2 B2 H2 y b' q => p c dx ι2 B2 O σ H2 (y.two b.sk.inB) b' q
  | er => exact p
theorem ss_nil : PSs X [] (sS g W mSkip) := imSs pss_nil fun D' σ H q => by
  obtain ⟨e, ι, B, O, ρ, μ, b, p⟩ := q
  exact p ι B O σ H (.refl _ _ _) b
theorem ss_cons {st : Stmt} {rest : List Stmt} {a b : Sm} (h1 : PS X st (sS g W a)) (h2 : PSs X rest (sS g W b)) : PSs X (st :: rest) (sS g W (mSeq a b)) := imSs (pss_cons h1 h2) fun D' σ H q => by
  obtain ⟨e, ι, B, O, ρ, μ, br, p⟩ := q
  refine ⟨e, ι, B, O, ρ, μ, br, ?_⟩
  unfold mSeq at p
  cases ha : a ρ μ with
  | nx ρ' μ' =>
    rw [ha] at p
    exact fun ι' B' O' σ' H' y b' => ⟨e, ι', B', O', ρ', μ', b', SPost.later y p⟩
  | rt d μ' => rw [ha] at p; exact p
  | bk ρ' μ' => rw [ha] at p; exact p
  | ct ρ' μ' => rw [ha] at p; exact p
  | ex x ρ' μ' => rw [ha] at p; exact p
  | er => rw [ha] at p; exact p
theorem ss_one {st : Stmt} {a : Sm} (h1 : PS X st (sS g W a)) : PSs X [st] (sS g W a) := pss_one h1
def mIf (c : Ex Bool) (a b : Sm) : Sm := fun ρ μ => (c ρ μ).s ρ fun x μ1 => if x = true then a ρ μ1 else b ρ μ1
theorem s_if {c : Expr} {a b : List Stmt} {mc : Ex Bool} {ma mb : Sm} {pos : Pos} (hc : PT X c (sC g W mc)) (ha : PSs X a (sS g W ma)) (hb : PSs X b (sS g W mb)) : PS X (.If c a b pos) (sS g W (mIf mc ma mb)) := imS (ps_if hc ha hb) fun D' σ H q => by
  obtain ⟨e, ι, B, O, ρ, μ, br, p⟩ := q
  refine ⟨e, ι, B, O, ρ, μ, br, (SPost.bind (R := RB) br p).imp fun v H1 ⟨x, ι1, B1, μ1, x1, b1, r1, p1⟩ => ?_⟩
  obtain rfl : x = v := r1
  cases x with
  | true => exact ⟨e, ι1, B1, O, ρ, μ1, b1, p1⟩
  | false => exact ⟨e, ι1, B1, O, ρ, μ1, b1, p1⟩
def mRet (a : Ex D) : Sm := fun ρ μ => (a ρ μ).s ρ fun x μ1 => .rt x μ1
theorem s_ret {a : Expr} {m : Ex D} {pos : Pos} (h : PE X a (sE g W m)) : PS X (.Return (some a) pos) (sS g W (mRet m)) := imS (ps_ret h) fun D' σ H q => by
  obtain ⟨e, ι, B, O, ρ, μ, br, p⟩ := q
  refine ⟨e, ι, B, O, ρ, μ, br, (SPost.bind (R := RD g) br p).imp fun v H1 ⟨x, ι1, B1, μ1, x1, b1, r1, p1⟩ => ?_⟩
  exact p1 v ι1 B1 H1 b1.sk b1.ext r1
def mDo (a : Ex D) : Sm := fun ρ μ => (a ρ μ).s ρ fun _ μ1 => .nx ρ μ1
theorem s_expr {a : Expr} {m : Ex D} {pos : Pos} (h : PE X a (sE g W m)) (hs : swapsWith a none pos.line X.env = pure false := by rfl) : PS X (.Expr a pos) (sS g W (mDo m)) := imS (ps_expr h hs) fun D' σ H q => by
  obtain ⟨e, ι, B, O, ρ, μ, br, p⟩ := q
  refine ⟨e, ι, B, O, ρ, μ, br, (SPost.bind (R := RD g) br p).imp fun v H1 ⟨x, ι1, B1, μ1, x1, b1, r1, p1⟩ => ?_⟩
  exact p1 ι1 B1 O σ H1 (.refl _ _ _) b1
theorem BR.set (b : BR g e ι B O ρ μ σ H) (i : Nat) {d : D} {v : V} (r : RepA g B ι H d v) : BR g e ι B O (ρ.set i (.val d)) μ (σ.set i (some v)) H := by
  refine ⟨b.sk, b.ext, by simpa using b.len, fun j s h => ?_, b.ow, b.inj⟩
  by_cases hj : i = j
  · subst hj
    rw [List.getElem?_set] at h
    rw [List.getElem?_set]
    simp only [if_true] at h ⊢
    split at h
    · rename_i hl
      cases h
      rw [if_pos (by rw [← b.len]; exact hl)]
      exact ⟨v, rfl, r⟩
    · cases h
  · rw [List.getElem?_set_ne hj] at h ⊢
    exact b.sl j s h
def mSet (i : Nat) (a : Ex D) : Sm := fun ρ μ => (a ρ μ).s ρ fun x μ1 => .nx (ρ.set i (.val x)) μ1
theorem asg_set {i : Nat} {m : Ex D} : ∀ D' σ H, sS g W (mSet i m) D' σ H → tAsg (sE g W m) (gName i) D' σ H := fun D' σ H q => by
  obtain ⟨e, ι, B, O, ρ, μ, br, p⟩ := q
  refine ⟨e, ι, B, O, ρ, μ, br, (SPost.bind (R := RD g) br p).imp fun v H1 ⟨x, ι1, B1, μ1, x1, b1, r1, p1⟩ => ?_⟩
  exact p1 ι1 B1 O _ H1 (.refl _ _ _) (b1.set i (.inl r1))
theorem s_set {i : Nat} {x : Str} {a : Expr} {m : Ex D} {pos pos' : Pos} (hN : X.N.Nodup) (hi : X.N[i]? = some x) (hx : Loc X.env.scope x) (h : PE X a (sE g W m)) (hs : swapsWith a (some (.Name x pos')) pos.line X.env = pure false := by rfl) (hf : X.fn x = true ∨ X.env.scope.names.lookup x = some .local := by first | exact .inl rfl | exact .inr rfl | assumption) :
    PS X (.Assign [.Name x pos'] a pos) (sS g W (mSet i m)) := imS (ps_set hN hi hx h hs hf) asg_set
end
end MP

set_option Elab.async false
set_option linter.all false
set_option maxRecDepth 100000
set_option maxHeartbeats 4000000
/-! defs: what they promise, how they are called -/
namespace MP
open PySem PySem.Spec PyProof.Rows L2

section
variable (g : G)
/-- a def that does what m says -/
def spF (n : Nat) (m : List D → Sto → Rs D) : Sp := fun vs H Q E => ∃ ι B ds μ, Sk g ι B μ H ∧ RepAs g B ι H ds vs ∧ ds.length = n ∧ match m ds μ with
  | .ok d μ' => ∀ v ι' B' H', Ext ι B H ι' B' H' → Sk g ι' B' μ' H' → Rep g B' ι' H' d v → Q v H'
  | .ex x μ' => ∀ cls dx ι' B' H', Ext ι B H ι' B' H' → Sk g ι' B' μ' H' → RepX g B' ι' H' x cls dx → E cls dx H'
  | .er => False
end
/-- a body run from its parameters -/
def runF (b : Sm) (N : Nat) : List D → Sto → Rs D := fun ds μ => match b (ds.map Sl.val ++ List.replicate (N - ds.length) Sl.un) μ with
  | .nx _ μ' => .ok .non μ'
  | .rt d μ' => .ok d μ'
  | .ex x _ μ' => .ex x μ'
  | _ => .er
section
variable {g : G} {e : En} {ι ι' : List Addr} {B B' : Addr → Prop} {O : Nat → Option Addr} {ρ : Env'} {μ μ' : Sto} {σ : L2.St} {H H' : Hp}
theorem RepAs.len : ∀ {ds : List D} {vs : List V}, RepAs g B ι H ds vs → ds.length = vs.length
  | [], vs, h => by simp only [RepAs] at h; rw [h]; rfl
  | d :: ds, vs, h => by
    simp only [RepAs] at h
    obtain ⟨v, r, e, _, h2⟩ := h
    rw [e, List.length_cons, List.length_cons, h2.len]
theorem RepAs.get : ∀ {ds : List D} {vs : List V} {i : Nat} {d : D}, RepAs g B ι H ds vs → ds[i]? = some d → ∃ v, vs[i]? = some v ∧ RepA g B ι H d v
  | [], _, _, _, _, h => by simp at h
  | d :: ds, vs, 0, x, h, hx => by
    simp only [RepAs] at h
    obtain ⟨v, r, e, h1, h2⟩ := h
    simp at hx
    subst hx e
    exact ⟨v, rfl, h1⟩
  | d :: ds, vs, i + 1, x, h, hx => by
    simp only [RepAs] at h
    obtain ⟨v, r, e, h1, h2⟩ := h
    subst e
    obtain ⟨w, q1, q2⟩ := h2.get (i := i) (by simpa using hx)
    exact ⟨w, by simpa using q1, q2⟩
theorem Reps.as : ∀ {ds : List D} {vs : List V}, Reps g B ι H ds vs → RepAs g B ι H ds vs
  | [], _, h => h
  | d :: ds, vs, h => by
    simp only [Reps] at h
    simp only [RepAs]
    obtain ⟨v, r, e, h1, h2⟩ := h
    exact ⟨v, r, e, .inl h1, h2.as⟩
/-- a def's entry -/
theorem BR.start (k : Sk g ι B μ H) {ds : List D} {vs : List V} {N : List Str} (r : RepAs g B ι H ds vs) (hl : vs.length ≤ N.length) :
    BR g ⟨ι, B, H⟩ ι B (fun _ => none) (ds.map Sl.val ++ List.replicate (N.length - ds.length) Sl.un) μ (L2.start N vs) H := by
  refine ⟨k, Ext.refl _ _ _, ?_, fun i s h => ?_, fun _ _ z => (nomatch z), fun _ _ _ z => (nomatch z)⟩
  · unfold L2.start
    simp [r.len]
  · by_cases hi : i < ds.length
    · rw [List.getElem?_append_left (by simpa using hi), List.getElem?_map] at h
      cases hd : ds[i]? with
      | none => rw [hd] at h; cases h
      | some d =>
        rw [hd] at h
        cases h
        obtain ⟨v, e1, e2⟩ := r.get hd
        refine ⟨v, ?_, e2⟩
        unfold L2.start
        rw [List.getElem?_append_left (by rw [List.length_map, ← r.len]; exact hi), List.getElem?_map, e1]
        rfl
    · rw [List.getElem?_append_right (by simpa using hi), List.getElem?_replicate] at h
      split at h
      · cases h
        trivial
      · cases h
/-- THE RULE: a def by its body -/
theorem f_ok {P : Program} {w : World} {mg : Str → Option Value} {base : Heap} {x qual : Str} {st : Stmt} {f : Addr} {fd : FuncData} {N ps : List Str} {k : Nat} {b : Sm} (F : Fun g.K x qual st f fd) (S : FnScope N ps (defScope st))
    (hb : ∀ (cdv : Value) (A : Around) (outer : List Env) (s : Shared) (H : Hp) (E : XK), Room k (A.deeper (envOfC qual (defScope st) s.heap.objs.size f cdv)) →
      Takes (cxOf (L2.CX P w) P w g.K mg base N qual (defScope st) f cdv A outer s H E) (fun c d _ H => E c d H) →
      PSs (cxOf (L2.CX P w) P w g.K mg base N qual (defScope st) f cdv A outer s H E) (defBody st) (sS g (fun c d _ H => E c d H) b)) :
    FnOk P w g.K mg base (L2.CX P w) (k + 1) f fd ps (spF g ps.length (runF b N.length)) := by
  refine F.okX S (fun vs H Q E h => ?_) (fun cdv A outer s H vs Q E hr h => ⟨_, hb cdv A outer s H E hr (takes_of rfl rfl rfl rfl), ?_⟩)
  · obtain ⟨ι, B, ds, μ, _, r, hl, _⟩ := h
    rw [← r.len, hl]
  · obtain ⟨ι, B, ds, μ, k, r, hl, p⟩ := h
    have hps : ps.length ≤ N.length := by
      have q := congrArg List.length S.pre
      rw [List.length_take] at q
      omega
    refine ⟨⟨ι, B, H⟩, ι, B, fun _ => none, _, μ, BR.start k r (by rw [← r.len, hl]; exact hps), ?_⟩
    unfold runF at p
    cases hm : b (ds.map Sl.val ++ List.replicate (N.length - ds.length) Sl.un) μ with
    | nx ρ μ' => rw [hm] at p; exact fun ι' B' O' σ' H' _ b' => p .non ι' B' H' b'.ext b'.sk (by simp [Rep])
    | rt d μ' => rw [hm] at p; exact fun v ι' B' H' sk ex r => p v ι' B' H' ex sk r
    | bk ρ μ' => rw [hm] at p; exact p.elim
    | ct ρ μ' => rw [hm] at p; exact p.elim
    | ex x ρ μ' => rw [hm] at p; exact fun cls dx ι' B' O' σ' H' _ b' r => p cls dx ι' B' H' b'.ext b'.sk r
    | er => rw [hm] at p; exact p.elim
end

/-! ### calls -/
abbrev RDs (g : G) : (Addr → Prop) → List Addr → Hp → List D → List V → Prop := fun B ι H d v => Reps g B ι H d v
abbrev sD (g : G) (W : WX) (m : Ex (List D)) : TA := sem g W (RDs g) m
section
variable {g : G} {W : WX} {X : Cx}
theorem d_nil : PA X [] (sD g W mNil) := imA pa_nil fun σ H Q q => by
  obtain ⟨e, ι, B, O, ρ, μ, b1, p⟩ := q
  exact p [] ι B H (.refl _ _ _) b1 (by simp [Reps])
theorem d_cons {a : Expr} {as : List Expr} {ma : Ex D} {ms : Ex (List D)} (ha : PE X a (sE g W ma)) (hs : PA X as (sD g W ms)) (hst : starEach (a :: as) X.env = (false, eval a X.env) :: starEach as X.env := by rfl) : PA X (a :: as) (sD g W (mCons ma ms)) :=
  imA (pa_cons ha hs hst) fun σ H Q q => by
    obtain ⟨e, ι, B, O, ρ, μ, b1, p⟩ := q
    refine ⟨e, ι, B, O, ρ, μ, b1, (Post.bind (R := RD g) p).imp fun vx H1 ⟨x, ι1, B1, μ1, x1, b1, r1, p1⟩ => ?_⟩
    refine ⟨e, ι1, B1, O, ρ, μ1, b1, (Post.bind (R := RDs g) p1).imp fun vs H2 ⟨xs, ι2, B2, μ2, x2, b2, r2, p2⟩ => ?_⟩
    refine p2 (vx :: vs) ι2 B2 H2 (.refl _ _ _) b2 ?_
    simp only [Reps]
    exact ⟨vx, vs, rfl, r1.step (x2.two b1.sk.inB), r2⟩
def mApp (n : Nat) (f : List D → Sto → Rs D) (as : Ex (List D)) : Ex D := fun ρ μ => (as ρ μ).bind fun ds μ1 => if ds.length = n then f ds μ1 else .er
/-- from a call's m to the callee's promise -/
theorem Post.spF {e : En} {ι : List Addr} {B : Addr → Prop} {O : Nat → Option Addr} {ρ : Env'} {μ : Sto} {σ : L2.St} {H : Hp} {n : Nat} {f : List D → Sto → Rs D} {ds : List D} {vs : List V} {Q : VK}
    (b : BR g e ι B O ρ μ σ H) (r : RepAs g B ι H ds vs) (hl : ds.length = n) (p : Post g W (RD g) e O ρ σ ι B H (f ds μ) Q) : spF g n f vs H Q (WE W σ) := by
  refine ⟨ι, B, ds, μ, b.sk, r, hl, ?_⟩
  cases hm : f ds μ with
  | ok d μ' => rw [hm] at p; exact fun v ι' B' H' x k r => p v ι' B' H' x (b.step x k) r
  | ex d μ' => rw [hm] at p; exact fun cls dx ι' B' H' x k r => p cls dx ι' B' H' x (b.step x k) r
  | er => rw [hm] at p; exact p.elim
theorem e_call {k n : Nat} {f : Addr} {fd : FuncData} {ps : List Str} {x : Str} {p pos : Pos} {a : Expr} {as : List Expr} {mf : List D → Sto → Rs D} {ms : Ex (List D)} (tk : Takes X W)
    (F : FnOk X.prog X.w X.K X.mg X.base (L2.CX X.prog X.w) k f fd ps (spF g n mf)) (hr : Room k X.A) (hg : Gl X x) (hm : X.mg x = some (.ref f)) (hk : PySem.W.keepIn X.K (.ref f) = true) (hb : Binds X.K fd ps []) (ha : PA X (a :: as) (sD g W ms))
    (hdb : (x == ("__debug__" : Str)) = false := by decide) (he : starEach (a :: as) X.env = (false, eval a X.env) :: starEach as X.env := by rfl) (hpl : (backTo pos (starEach as X.env)).any (·.1) = false := by rfl) :
    PE X (.Call (.Name x p) (a :: as) [] pos) (sE g W (mApp n mf ms)) :=
  imE (pe_callS F hr hg hm hk hb (fun σ => passAt tk σ) ha hdb he hpl) fun σ H Q q => by
    obtain ⟨e, ι, B, O, ρ, μ, b1, p⟩ := q
    refine ⟨e, ι, B, O, ρ, μ, b1, (Post.bind (R := RDs g) p).imp fun vs H1 ⟨ds, ι1, B1, μ1, x1, b1, r1, p1⟩ => ?_⟩
    split at p1
    · rename_i hl
      exact p1.spF b1 r1.as hl
    · exact p1.elim
/-- f() -/
def mApp0 (f : List D → Sto → Rs D) : Ex D := fun ρ μ => match f [] μ with
  | .ok d μ' => .ok d μ'
  | _ => .er
theorem e_call0 {k : Nat} {f : Addr} {fd : FuncData} {x : Str} {p pos : Pos} {mf : List D → Sto → Rs D}
    (F : FnOk X.prog X.w X.K X.mg X.base (L2.CX X.prog X.w) k f fd [] (spF g 0 mf)) (hr : Room k X.A) (hg : Gl X x) (hm : X.mg x = some (.ref f)) (hk : PySem.W.keepIn X.K (.ref f) = true) (hb : Binds X.K fd [] [])
    (hdb : (x == ("__debug__" : Str)) = false := by decide) : PE X (.Call (.Name x p) [] [] pos) (sE g W (mApp0 mf)) :=
  imE (pe_call0 (E := E0) F hr hg hm hk hb .nil passL hdb) fun σ H Q q => by
    obtain ⟨e, ι, B, O, ρ, μ, b1, p⟩ := q
    refine ⟨ι, B, [], μ, b1.sk, by simp [RepAs], rfl, ?_⟩
    unfold mApp0 at p
    cases hm : mf [] μ with
    | ok d μ' => rw [hm] at p; exact fun v ι' B' H' x k r => p v ι' B' H' x (b1.step x k) r
    | ex d μ' => rw [hm] at p; exact p.elim
    | er => rw [hm] at p; exact p.elim
end
end MP

set_option Elab.async false
set_option linter.all false
set_option maxRecDepth 100000
set_option maxHeartbeats 4000000
/-! closures: lambdas made, lent to a callee, called -/
namespace MP
open PySem PySem.Spec PyProof.Rows L2 NdefX
section
variable {X : Cx} {pins : List (Addr × Obj)} {σ : L2.St} {H : Hp} {s : Shared}
theorem inv_lam {L : Lam} {q : Str} {cl : List (Str × Addr)} {c : Addr} {pm ctv : Value} {t' : Nat} (I : Inv X pins σ H s) :
    Inv X pins σ (upd H s.heap.objs.size (LamO s.heap.objs.size L q cl c)) { s with heap := s.heap.push (PySem.W.kla_obj "<lambda>" q L.params L.body L.scope cl pm c ctv), toks := t' } := by
  refine I.laid (a := s.heap.objs.size) (fun b u e => Heap.get?_push_of_some _ e) (Nat.le_refl _) ?_
  have e : (s.heap.push (PySem.W.kla_obj "<lambda>" q L.params L.body L.scope cl pm c ctv)).get? s.heap.objs.size = some (PySem.W.kla_obj "<lambda>" q L.params L.body L.scope cl pm c ctv) := Heap.get?_push_size _ rfl
  exact ⟨⟨_, _, pm, ctv, e⟩, ⟨_, e⟩, fun h1 h2 ⟨od, sl, p, t, z⟩ st => ⟨od, sl, p, t, st _ z⟩⟩
/-- what the making of a lambda leaves -/
structure LamMade (g : G) (L : Lam) (q : Str) (cl : List (Str × Addr)) (H : Hp) (f c : Addr) (H1 : Hp) : Prop where
  ext : LamX.ExtN H H1
  dom : ∀ b, H1 b = none → H b = none
  tabs : TabsN g.tabs H1
  new : H f = none
  fn : H1 f = some (LamO f L q cl c)
  co : H1 c = some (LamX.CodeO c q)
/-- the def at hand makes lambdas of the name q: its code object, its table -/
structure Mks (g : G) (X : Cx) (q : Str) : Prop where
  ex : ∃ (c P : Addr) (nm : Nat → Nat → Str), LamX.TabB X.base X.mg c P ∧ X.env.code = .ref c ∧ (P, nm) ∈ g.tabs ∧ (∀ l k, nm l k = q) ∧ ∀ p ∈ g.tabs, p.1 = P → p.2 = nm
theorem lam_make {g : G} {L : Lam} {pos : Pos} {E : Value → Shared → Prop} {Q : Value → Shared → Prop} (I : Inv X pins σ H s) (M : Mks g X (X.env.qual ++ "<lambda>")) (hT : TabsN g.tabs H) (hdef : defaultsOf L.params X.env = ([], []))
    (hfree : ∀ y ∈ L.scope.names, y.2 = .free → ∃ c, X.env.cells.lookup y.1 = some c)
    (h : ∀ f c H1 s', Inv X pins σ H1 s' → LamMade g L (X.env.qual ++ "<lambda>") (cloFrom X.env.cells L.scope.names []) H f c H1 → Q (.ref f) s') :
    wpAny (model X.prog X.w) X.A (eval (.Lambda L.params L.body L.scope pos) X.env) Q E s := by
  obtain ⟨c, P, nm, TB, hcode, hm, hn, hu⟩ := M.ex
  obtain ⟨ps, hP, ht, ha⟩ := (show TabN H P nm from hT _ hm)
  have hP' : s.heap.get? P = some { cls := .none, data := .fields ps } := I.hok P _ hP
  refine PySem.W.kla_eval hdef ?_
  cases hc : codeAmong pos ps.toList with
  | none =>
    refine PySem.W.kla_makeFunction (mg := X.mg) (c := c) (P := P) (ps := ps) (closure_ok hfree) I.ok.glob (I.mod.glob.keeps I.bk) hcode (TB.code.keeps I.bk) hP' ht hc TB.gP (TB.bm.keeps I.bk) fun c' ctv h' tk hx hge hlt hrec htb => ?_
    obtain ⟨c2, oc, vs, t, e2, hoc, hd, hv⟩ := hrec
    cases e2
    have nC : H c' = none := I.hok.fresh hge
    have I1 := LamX.inv_table (t' := tk) (more := #[rawInt pos.line, rawInt pos.col, .ref c']) (h' := h') I hP (fun b o hb e => hx b o hb e) htb hge ⟨oc, vs, t, hoc, hd, hv⟩
    have hE : LamX.ExtN H (upd (upd H P (.tbl (ps ++ #[rawInt pos.line, rawInt pos.col, .ref c']))) c' (LamX.CodeO c' (X.env.qual ++ "<lambda>"))) := fun b o e n => by
      have n1 : b ≠ P := fun z => n ps (Option.some.inj (e.symm.trans (by rw [z]; exact hP)))
      rw [upd_ne (ne_of_none e nC), upd_ne n1]
      exact e
    have T1 : TabsN g.tabs (upd (upd H P (.tbl (ps ++ #[rawInt pos.line, rawInt pos.col, .ref c']))) c' (LamX.CodeO c' (X.env.qual ++ "<lambda>"))) := fun p hp => by
      by_cases hb : p.1 = P
      · rw [hu p hp hb, hb]
        have eL : (ps ++ #[rawInt pos.line, rawInt pos.col, .ref c']).toList = ps.toList ++ [rawInt pos.line, rawInt pos.col, .ref c'] := by simp
        refine ⟨_, by rw [upd_ne (ne_of_none hP nC), upd_same], by rw [eL]; exact PySem.TriplesOk_snoc _ _ _ _ ht, fun p' cv hcv => ?_⟩
        rw [eL] at hcv
        rcases among_app2 _ ht hcv with z | ⟨z, _, _⟩
        · obtain ⟨c0, e1, e2⟩ := ha p' cv z
          exact ⟨c0, e1, hE _ _ e2 LamX.codeO_ne⟩
        · exact ⟨c', z, by rw [hn]; exact upd_same⟩
      · obtain ⟨ps', a1, a2, a3⟩ := hT p hp
        refine ⟨ps', by rw [upd_ne (ne_of_none a1 nC), upd_ne hb]; exact a1, a2, fun p' cv hcv => ?_⟩
        obtain ⟨c0, e1, e2⟩ := a3 p' cv hcv
        exact ⟨c0, e1, hE _ _ e2 LamX.codeO_ne⟩
    have nF := I1.hok.fresh (Nat.le_refl _)
    have I2 := inv_lam (L := L) (q := X.env.qual ++ "<lambda>") (cl := cloFrom X.env.cells L.scope.names []) (c := c') (pm := (X.mg "__name__").getD .none) (ctv := ctv) (t' := tk) I1
    refine h h'.objs.size c' _ _ I2 ⟨fun b o e n => ?_, fun b e => upd_none (upd_none (upd_none e)), T1.ext fun b o e => ?_, I.hok.fresh (Nat.le_trans hge (Nat.le_of_lt hlt)), upd_same, ?_⟩
    · exact (upd_ne (ne_of_none (hE b o e n) nF)).trans (hE b o e n)
    · exact (upd_ne (ne_of_none e nF)).trans e
    · exact (upd_ne (Nat.ne_of_lt hlt)).trans upd_same
  | some cv =>
    obtain ⟨c', e, hco⟩ := ha pos cv hc
    subst e
    rw [hn] at hco
    refine PySem.W.kla_makeFunctionHit (mg := X.mg) (c := c) (P := P) (ps := ps) (closure_ok hfree) I.ok.glob (I.mod.glob.keeps I.bk) hcode (TB.code.keeps I.bk) hP' ht hc (TB.bm.keeps I.bk) fun ctv h' tk hx hsz => ?_
    have I1 : Inv X pins σ H { s with heap := h', toks := tk } := I.kept hx
    have nF : H h'.objs.size = none := I1.hok.fresh (Nat.le_refl _)
    have I2 := inv_lam (L := L) (q := X.env.qual ++ "<lambda>") (cl := cloFrom X.env.cells L.scope.names []) (c := c') (pm := (X.mg "__name__").getD .none) (ctv := ctv) (t' := tk) I1
    refine h h'.objs.size c' _ _ I2 ⟨fun b o e n => ?_, fun b e => upd_none e, hT.ext fun b o e => ?_, nF, upd_same, ?_⟩
    · exact (upd_ne (ne_of_none e nF)).trans e
    · exact (upd_ne (ne_of_none e nF)).trans e
    · exact (upd_ne (ne_of_none hco nF)).trans hco
end

/-! ### what a lambda promises -/
section
variable (g : G) (P : Program) (w : World) (mg : Str → Option Value) (base : Heap)
def spL (L : Lam) (m : List D → List D → Sto → Rs D) (ws vs : List V) (H : Hp) (Q : VK) (E : XK) : Prop := ∃ ι B cs ds μ, Sk g ι B μ H ∧ RepAs g B ι H cs ws ∧ RepAs g B ι H ds vs ∧ match m cs ds μ with
  | .ok d μ' => ∀ v ι' B' H', Ext ι B H ι' B' H' → Sk g ι' B' μ' H' → Rep g B' ι' H' d v → Q v H'
  | .ex x μ' => ∀ cls dx ι' B' H', Ext ι B H ι' B' H' → Sk g ι' B' μ' H' → RepX g B' ι' H' x cls dx → E cls dx H'
  | .er => False
structure LamOk (k : Nat) (L : Lam) (m : List D → List D → Sto → Rs D) : Prop where
  run : ∀ (A : Around) (outer : List Env) (s : Shared) (H : Hp) (f c : Addr) (q : Str) (cl : List (Str × Addr)) (us : List Value) (vs ws : List V) (Q : VK) (E : XK), Room k A → Env0 P w g.K mg base A outer s H →
    H f = some (LamO f L q cl c) → H c = some (LamX.CodeO c q) → CellsAt cl L.fr (ws.map some) s.heap H → Vals vs us → spL g L m ws vs H Q E → codeAny (model P w) A (.call (.ref f) ⟨us, []⟩) (CR (L2.CX P w) outer P w H s Q E) s
end
def runL (n N : Nat) (b : Ex D) : List D → List D → Sto → Rs D := fun cs ds μ => if ds.length = n then b (ds.map Sl.val ++ (cs.map Sl.val ++ List.replicate (N - ds.length - cs.length) Sl.un)) μ else .er
section
variable {g : G} {P : Program} {w : World} {mg : Str → Option Value} {base : Heap} {k : Nat} {L : Lam}
abbrev lamNF (L : Lam) (q : Str) (cl : List (Str × Addr)) (c : Addr) : NF := ⟨"<lambda>", q, L.params, [], L.scope, cl, c⟩
abbrev lcx (g : G) (P : Program) (w : World) (mg : Str → Option Value) (base : Heap) (L : Lam) (q : Str) (cl : List (Str × Addr)) (c f : Addr) (A : Around) (outer : List Env) (s : Shared) (H : Hp) (E : XK) : Cx :=
  ncx (L2.CX P w) P w g.K mg base L.N (lamNF L q cl c) f A outer s H E
theorem lamO_at {H : Hp} {h : Heap} {f c : Addr} {q : Str} {cl : List (Str × Addr)} (hok : HOk P w H h) (e : H f = some (LamO f L q cl c)) : ∃ (od : Option Addr) (sl : Array (Option Value)) (pm ctv : Value), h.get? f = some (⟨.type "function", od, .func (PySem.W.kla_fn "<lambda>" q L.params L.body L.scope cl pm (.ref c) ctv), sl⟩ : Obj) := by
  obtain ⟨z, _, _⟩ := hok f _ e
  exact z
theorem BR.startL {ι : List Addr} {B : Addr → Prop} {μ : Sto} {H : Hp} (kk : Sk g ι B μ H) {cs ds : List D} {vs ws : List V} {N : List Str} (r : RepAs g B ι H ds vs) (rc : RepAs g B ι H cs ws) (hl : vs.length + ws.length ≤ N.length) :
    BR g ⟨ι, B, H⟩ ι B (fun _ => none) (ds.map Sl.val ++ (cs.map Sl.val ++ List.replicate (N.length - ds.length - cs.length) Sl.un)) μ (startF N vs (ws.map some)) H := by
  refine ⟨kk, Ext.refl _ _ _, ?_, fun i s h => ?_, fun _ _ z => (nomatch z), fun _ _ _ z => (nomatch z)⟩
  · unfold startF
    simp [r.len, rc.len]
  · by_cases hi : i < ds.length
    · rw [List.getElem?_append_left (by simpa using hi), List.getElem?_map] at h
      cases hd : ds[i]? with
      | none => rw [hd] at h; cases h
      | some d =>
        rw [hd] at h
        cases h
        obtain ⟨v, e1, e2⟩ := r.get hd
        refine ⟨v, ?_, e2⟩
        unfold startF
        rw [List.getElem?_append_left (by rw [List.length_map, ← r.len]; exact hi), List.getElem?_map, e1]
        rfl
    · rw [List.getElem?_append_right (by simpa using hi), List.length_map] at h
      by_cases hj : i - ds.length < cs.length
      · rw [List.getElem?_append_left (by simpa using hj), List.getElem?_map] at h
        cases hd : cs[i - ds.length]? with
        | none => rw [hd] at h; cases h
        | some d =>
          rw [hd] at h
          cases h
          obtain ⟨v, e1, e2⟩ := rc.get hd
          refine ⟨v, ?_, e2⟩
          unfold startF
          have h1 : (vs.map some).length = ds.length := by rw [List.length_map, r.len]
          have h2 : (ws.map some).length = cs.length := by rw [List.length_map, rc.len]
          rw [List.getElem?_append_right (by rw [h1]; omega), h1, List.getElem?_append_left (by rw [h2]; exact hj), List.getElem?_map, e1]
          rfl
      · rw [List.getElem?_append_right (by simpa using hj), List.getElem?_replicate] at h
        split at h
        · cases h
          trivial
        · cases h
theorem lam_ok {b : Ex D} (S : NScope L.N L.ps L.fr L.scope) (hbd : ∀ (q : Str) (cl : List (Str × Addr)) (pm cdv ctv : Value) (us : List Value), us.length = L.ps.length → bindArgs (PySem.W.kla_fn "<lambda>" q L.params L.body L.scope cl pm cdv ctv) ⟨us, []⟩ = pure (L.ps.zip us))
    (hb : ∀ (q : Str) (cl : List (Str × Addr)) (c f : Addr) (A : Around) (outer : List Env) (s : Shared) (H : Hp) (E : XK), Room k (A.deeper (envF (lamNF L q cl c) f s.heap.objs.size)) →
      Takes (lcx g P w mg base L q cl c f A outer s H E) (fun c d _ H => E c d H) → PE (lcx g P w mg base L q cl c f A outer s H E) L.body (sE g (fun c d _ H => E c d H) b)) :
    LamOk g P w mg base (k + 1) L (runL L.ps.length L.N.length b) := by
  refine ⟨fun A outer s H f c q cl us vs ws Q E hr e0 hf hc C r hsp => ?_⟩
  obtain ⟨ι, B, cs, ds, μ, kk, rc, rd, p⟩ := hsp
  have hl : ds.length = L.ps.length := by
    by_cases hl : ds.length = L.ps.length
    · exact hl
    · unfold runL at p
      rw [if_neg hl] at p
      exact p.elim
  have hvl : vs.length = L.ps.length := by rw [← rd.len, hl]
  have lim : s.heap.NoLimit := e0.mod.nolimit.keeps fun b o e => (e0.bs b o e).1
  obtain ⟨od, sl, pm, ctv, ho⟩ := lamO_at e0.hok hf
  refine PySem.W.kla_callFunE hr.depth ho rfl S.co S.gen rfl (codeO_at e0.hok hc) ?_
  rw [hbd q cl pm (.ref c) ctv us (by rw [← r.length]; exact hvl)]
  refine wpAny_pure (wpAny_newFunctionEnv S.nocell (fun ⟨n, _⟩ hy => S.par n (List.of_mem_zip hy).1) (fun h₁ hns hsb => ⟨lim.fresh _ hsb, ?_⟩) S.kind)
  show codeAny _ _ (.expr L.body (envF (lamNF L q cl c) f s.heap.objs.size)) _ _
  have kp : ∀ b o, s.heap.get? b = some o → h₁.get? b = some o := fun b o e => hsb.extBut b o (Nat.ne_of_lt (Heap.lt_size e)) (Heap.get?_push_of_some _ e)
  have I : Inv (lcx g P w mg base L q cl c f A outer s H E) [] (startF L.N vs (ws.map some)) H { s with heap := h₁, toks := s.toks + (L.ps.zip us).length } := inv_startN S hr.hd e0 hvl r C hns kp
  have hN : vs.length + ws.length ≤ L.N.length := by
    have q := congrArg List.length S.pre
    rw [List.length_take, List.length_append] at q
    have q2 := C.len
    rw [List.length_map] at q2
    omega
  have pe := hb q cl c f A outer s H E (hr.deeper _) (takes_of rfl rfl rfl rfl)
  refine PySem.W.kla_codeExpr (wpAny_mono (pe.run [] _ (startF L.N vs (ws.map some)) H Q I ⟨⟨ι, B, H⟩, ι, B, fun _ => none, _, μ, BR.startL kk rd rc hN, ?_⟩) (fun v s' hq => ?_) fun e s' hq => hq)
  · unfold runL at p
    rw [if_pos hl] at p
    cases hm : b (ds.map Sl.val ++ (cs.map Sl.val ++ List.replicate (L.N.length - ds.length - cs.length) Sl.un)) μ with
    | ok d μ' => rw [hm] at p; exact fun v ι' B' H' x b' r => p v ι' B' H' x b'.sk r
    | ex d μ' => rw [hm] at p; exact fun cls dx ι' B' H' x b' r => p cls dx ι' B' H' x b'.sk r
    | er => rw [hm] at p; exact p.elim
  · obtain ⟨w', H', J', rv, q⟩ := hq
    exact ⟨w', H', J'.os, J'.bare, J'.base, J'.hok, rv, q⟩
end
end MP

set_option Elab.async false
set_option linter.all false
set_option maxRecDepth 100000
set_option maxHeartbeats 4000000
namespace MP
open PySem PySem.Spec PyProof.Rows L2 NdefX
/-! ### cells lent to a callee -/
def lend (H : Hp) (φ : Addr → Option Obj) : Hp := fun b => match φ b with
  | some o => some (FixO o)
  | none => H b
def unlend (H : Hp) (φ : Addr → Option Obj) : Hp := fun b => match φ b with
  | some _ => none
  | none => H b
theorem lend_some {H : Hp} {φ : Addr → Option Obj} {b : Addr} {o : Obj} (h : φ b = some o) : lend H φ b = some (FixO o) := by unfold lend; rw [h]
theorem lend_none {H : Hp} {φ : Addr → Option Obj} {b : Addr} (h : φ b = none) : lend H φ b = H b := by unfold lend; rw [h]
theorem unlend_some {H : Hp} {φ : Addr → Option Obj} {b : Addr} {o : Obj} (h : φ b = some o) : unlend H φ b = none := by unfold unlend; rw [h]
theorem unlend_none {H : Hp} {φ : Addr → Option Obj} {b : Addr} (h : φ b = none) : unlend H φ b = H b := by unfold unlend; rw [h]
/-- what is lent: objects of the heap that are not tracked, no frames, younger than the base -/
structure Lent (base h : Heap) (fs : List Addr) (H : Hp) (φ : Addr → Option Obj) : Prop where
  obj : ∀ a o, φ a = some o → h.get? a = some o
  free : ∀ a o, φ a = some o → H a = none
  nofr : ∀ a o, φ a = some o → a ∉ fs
  nob : ∀ a o, φ a = some o → base.get? a = none
section
variable {P : Program} {w : World} {K : PySem.W.Frag} {mg : Str → Option Value} {base : Heap} {A : Around} {outer : List Env} {s s' : Shared} {H : Hp} {φ : Addr → Option Obj}
theorem lend_up {h : Heap} {fs : List Addr} (l : Lent base h fs H φ) {a : Addr} {o : HO} (e : H a = some o) : lend H φ a = some o := by
  cases q : φ a with
  | none => rw [lend_none q]; exact e
  | some ob => rw [l.free a ob q] at e; cases e
theorem lend_dom {a : Addr} (e : lend H φ a = none) : H a = none ∧ φ a = none := by
  cases q : φ a with
  | none => rw [lend_none q] at e; exact ⟨e, rfl⟩
  | some ob => rw [lend_some q] at e; cases e
theorem HOk.lend {h : Heap} {fs : List Addr} (k : HOk P w H h) (l : Lent base h fs H φ) : HOk P w (MP.lend H φ) h := fun a o e => by
  cases q : φ a with
  | some ob =>
    rw [lend_some q] at e
    cases e
    exact ⟨l.obj a ob q, ob, l.obj a ob q⟩
  | none =>
    rw [lend_none q] at e
    exact (k a o e).stay (fun b u _ z => z) (fun b z => lend_up l z) fun b xs z => lend_up l z
theorem HOk.unlend {h : Heap} (k : HOk P w H h) (kept : ∀ a ob, φ a = some ob → H a = some (FixO ob)) : HOk P w (MP.unlend H φ) h := fun a o e => by
  cases q : φ a with
  | some ob => rw [unlend_some q] at e; cases e
  | none =>
    rw [unlend_none q] at e
    refine (k a o e).stay (fun b u _ z => z) (fun b z => ?_) fun b xs z => ?_
    · cases qb : φ b with
      | none => rw [unlend_none qb]; exact z
      | some ob => rw [kept b ob qb] at z; cases z
    · cases qb : φ b with
      | none => rw [unlend_none qb]; exact z
      | some ob => rw [kept b ob qb] at z; cases z
theorem Env0.lend (e : Env0 P w K mg base A outer s H) (l : Lent base s.heap (frs outer) H φ) : Env0 P w K mg base A outer s (MP.lend H φ) := by
  refine ⟨e.frames, e.mod, fun b o z => ⟨(e.bs b o z).1, ?_⟩, e.bsz, e.funs, fun b hb => ?_, HOk.lend e.hok l, e.bare⟩
  · cases q : φ b with
    | none => rw [lend_none q]; exact (e.bs b o z).2
    | some ob => rw [l.nob b ob q] at z; cases z
  · cases q : φ b with
    | none => rw [lend_none q]; exact e.frf b hb
    | some ob => exact absurd hb (l.nofr b ob q)
theorem CE.unlend {Q Q' : VK} {u : Value} (l : Lent base s.heap (frs outer) H φ) (c : CE outer P w (lend H φ) s Q u s') (h : ∀ v H', (∀ a ob, φ a = some ob → H' a = some (FixO ob)) → Q v H' → Q' v (unlend H' φ)) : CE outer P w H s Q' u s' := by
  obtain ⟨v, H', os, bare, un, hok, r, q⟩ := c
  have kept : ∀ a ob, φ a = some ob → H' a = some (FixO ob) := fun a ob z => un.frzs a ob _ (lend_some z)
  have at_ : ∀ {a : Addr} {ob : Obj}, φ a = some ob → s'.heap.get? a = some ob := fun {a ob} z => (show s'.heap.get? a = some ob ∧ _ from hok a _ (kept a ob z)).1
  refine ⟨v, MP.unlend H' φ, os, bare, ⟨fun b o e n hb hx => ?_, fun b o e n hb hx => ?_, fun b o e n hx => ?_, fun b o e hx => un.there b o e hx, fun b xs e => ?_, fun b o z e => ?_, fun b ps e => ?_⟩, HOk.unlend hok kept, r, h v H' kept q⟩
  · cases qb : φ b with
    | some ob =>
      rw [l.obj b ob qb] at e
      cases e
      exact at_ qb
    | none => exact un.keep b o e (by rw [lend_none qb]; exact n) hb hx
  · cases qb : φ b with
    | some ob => exact absurd hb (l.nofr b ob qb)
    | none => exact un.slot b o e (by rw [lend_none qb]; exact n) hb hx
  · cases qb : φ b with
    | some ob => exact unlend_some qb
    | none => rw [unlend_none qb]; exact un.free b o e (by rw [lend_none qb]; exact n) hx
  · have q2 := un.tups b xs (lend_up l e)
    cases qb : φ b with
    | some ob => rw [l.free b ob qb] at e; cases e
    | none => rw [unlend_none qb]; exact q2
  · have q2 := un.frzs b o z (lend_up l e)
    cases qb : φ b with
    | some ob => rw [l.free b ob qb] at e; cases e
    | none => rw [unlend_none qb]; exact q2
  · obtain ⟨more, q2⟩ := un.tbls b ps (lend_up l e)
    cases qb : φ b with
    | some ob => rw [l.free b ob qb] at e; cases e
    | none => exact ⟨more, by rw [unlend_none qb]; exact q2⟩
theorem CX.unlend {E E' : XK} {u : Value} (l : Lent base s.heap (frs outer) H φ) (c : L2.CX P w outer (lend H φ) s E u s') (h : ∀ cls d H', (∀ a ob, φ a = some ob → H' a = some (FixO ob)) → E cls d H' → E' cls d (unlend H' φ)) : L2.CX P w outer H s E' u s' := by
  obtain ⟨a, G, H', cls, d, e, fl, hok, ub, na, os, bare, q⟩ := c
  have kept : ∀ a ob, φ a = some ob → H' a = some (FixO ob) := fun a ob z => ub.frzs a ob _ (lend_some z)
  have at_ : ∀ {a : Addr} {ob : Obj}, φ a = some ob → G.get? a = some ob := fun {a ob} z => (show G.get? a = some ob ∧ _ from hok a _ (kept a ob z)).1
  refine ⟨a, G, MP.unlend H' φ, cls, d, e, fl, HOk.unlend hok kept, ⟨fun b o e n hb => ?_, fun b o e hb => ub.slot b o e hb, fun b o e n => ?_, fun b o e hb => ub.there b o e hb, fun b xs e => ?_, fun b o z e => ?_, fun b ps e => ?_⟩, ?_, os, bare, h cls d H' kept q⟩
  · cases qb : φ b with
    | some ob =>
      rw [l.obj b ob qb] at e
      cases e
      exact at_ qb
    | none => exact ub.keep b o e (by rw [lend_none qb]; exact n) hb
  · cases qb : φ b with
    | some ob => exact unlend_some qb
    | none => rw [unlend_none qb]; exact ub.free b o e (by rw [lend_none qb]; exact n)
  · have q2 := ub.tups b xs (lend_up l e)
    cases qb : φ b with
    | some ob => rw [l.free b ob qb] at e; cases e
    | none => rw [unlend_none qb]; exact q2
  · have q2 := ub.frzs b o z (lend_up l e)
    cases qb : φ b with
    | some ob => rw [l.free b ob qb] at e; cases e
    | none => rw [unlend_none qb]; exact q2
  · obtain ⟨more, q2⟩ := ub.tbls b ps (lend_up l e)
    cases qb : φ b with
    | some ob => rw [l.free b ob qb] at e; cases e
    | none => exact ⟨more, by rw [unlend_none qb]; exact q2⟩
  · cases qb : φ a with
    | some ob => exact unlend_some qb
    | none => rw [unlend_none qb]; exact na
end
/-! ### the same in the abstract heap's words -/
section
variable {g : G} {ι ι' : List Addr} {B B' : Addr → Prop} {μ μ' : Sto} {H H' : Hp} {φ : Addr → Option Obj}
theorem Ext.lend (hφ : ∀ a o, φ a = some o → H a = none) : Ext ι B H ι B (MP.lend H φ) :=
  Ext.grow (fun a o e _ => by
    cases q : φ a with
    | none => rw [lend_none q]; exact e
    | some ob => rw [hφ a ob q] at e; cases e) fun a e => (lend_dom e).1
theorem Sk.lend (k : Sk g ι B μ H) (hφ : ∀ a o, φ a = some o → H a = none) : Sk g ι B μ (MP.lend H φ) := by
  have up : ∀ a o, H a = some o → MP.lend H φ a = some o := fun a o e => by
    cases q : φ a with
    | none => rw [lend_none q]; exact e
    | some ob => rw [hφ a ob q] at e; cases e
  exact k.grow (fun a o e _ => up a o e) (fun a e => (lend_dom e).1) (k.tabs.ext up)
theorem Ext.unlend (x : Ext ι B (MP.lend H φ) ι' B' H') (hφ : ∀ a o, φ a = some o → H a = none) : Ext ι B H ι' B' (MP.unlend H' φ) := by
  refine ⟨x.pre, fun a h => (x.newI a h).imp id fun z => (lend_dom z).1, x.mono, fun a h => (x.newB a h).imp id fun z => (lend_dom z).1, fun a o e n => ?_, fun a e => ?_⟩
  · cases q : φ a with
    | some ob => rw [hφ a ob q] at e; cases e
    | none =>
      rw [unlend_none q]
      exact x.fr a o (by rw [lend_none q]; exact e) n
  · cases q : φ a with
    | some ob => exact hφ a ob q
    | none =>
      rw [unlend_none q] at e
      exact (lend_dom (x.dom a e)).1
theorem Keeps.unlend (x : Ext ι B (MP.lend H φ) ι' B' H') : Keeps H' (MP.unlend H' φ) := fun a o e n => by
  cases q : φ a with
  | none => rw [unlend_none q]; exact e
  | some ob =>
    rcases x.fr a _ (lend_some q) (fun _ z => by cases z) with z | ⟨_, m⟩
    · rw [e] at z
      cases z
      exact absurd rfl (n ob)
    · exact m.elim
theorem Sk.unlend (k : Sk g ι' B' μ' H') (k0 : Sk g ι B μ H) (x : Ext ι B (MP.lend H φ) ι' B' H') (hφ : ∀ a o, φ a = some o → H a = none) : Sk g ι' B' μ' (MP.unlend H' φ) :=
  k.keeps (Keeps.unlend x) fun a b => by
    cases q : φ a with
    | none => rw [unlend_none q]; exact k.dom a b
    | some ob =>
      rcases x.newB a b with z | z
      · exact absurd (hφ a ob q) (k0.dom a z)
      · rw [lend_some q] at z; cases z
end
end MP

set_option Elab.async false
set_option linter.all false
set_option maxRecDepth 100000
set_option maxHeartbeats 4000000
/-! a call with a lambda as its last argument; a call of a closure -/
namespace MP
open PySem PySem.Spec PyProof.Rows L2 NdefX
abbrev lamQ (X : Cx) : Str := X.env.qual ++ "<lambda>"
abbrev lamCl (X : Cx) (L : Lam) : List (Str × Addr) := cloFrom X.env.cells L.scope.names []
/-- arguments, then a lambda -/
def RL (g : G) (L : Lam) (q : Str) (cl : List (Str × Addr)) : (Addr → Prop) → List Addr → Hp → List D → List V → Prop := fun B ι H ds ws =>
  ∃ vs f c, ws = vs ++ [.ref f] ∧ Reps g B ι H ds vs ∧ H f = some (LamO f L q cl c) ∧ H c = some (LamX.CodeO c q)
/-- the text of a lambda beside the def that makes it -/
structure LamT (g : G) (X : Cx) (k : Nat) (L : Lam) (js : List Nat) : Prop where
  at_ : g.lam k = some L
  S : NScope L.N L.ps L.fr L.scope
  nd : ndefB X.env.scope L.scope L.fr = true
  js : js.map (fun j => X.N[j]?) = L.fr.map some
  own : ∀ y ∈ L.fr, X.fn y = true
  defs : defaultsOf L.params X.env = ([], [])
section
variable {g : G} {W : WX} {X : Cx} {k : Nat} {L : Lam} {js : List Nat}
theorem pe_lam {pos : Pos} (M : Mks g X (lamQ X)) (T : LamT g X k L js) : PE X (.Lambda L.params L.body L.scope pos) (fun _ H Q => TabsN g.tabs H ∧ ∀ f c H1, LamMade g L (lamQ X) (lamCl X L) H f c H1 → Q (.ref f) H1) := by
  refine ⟨fun pins s σ H Q I h => ?_⟩
  have hfree : ∀ y ∈ L.scope.names, y.2 = .free → ∃ c, X.env.cells.lookup y.1 = some c := fun y hy e => (ndef_free T.nd y hy e).elim (fun z => I.ok.has _ (.inl z)) fun z => I.ok.has _ (.inr z)
  exact lam_make I M h.1 T.defs hfree fun f c H1 s' I1 m => ⟨.ref f, H1, I1, rfl, h.2 f c H1 m⟩
theorem l_last {pos : Pos} (M : Mks g X (lamQ X)) (T : LamT g X k L js) (hst : starEach [Expr.Lambda L.params L.body L.scope pos] X.env = (false, eval (.Lambda L.params L.body L.scope pos) X.env) :: starEach [] X.env := by rfl) :
    PA X [.Lambda L.params L.body L.scope pos] (sem g W (RL g L (lamQ X) (lamCl X L)) mNil) := imA (pa_cons (pe_lam M T) pa_nil hst) fun σ H Q q => by
  obtain ⟨e, ι, B, O, ρ, μ, b, p⟩ := q
  refine ⟨b.sk.tabs, fun f c H1 m => ?_⟩
  refine p [.ref f] ι B H1 (Ext.grow (fun a o h n => m.ext a o h n) m.dom) (b.step (Ext.grow (fun a o h n => m.ext a o h n) m.dom) (b.sk.grow (fun a o h n => m.ext a o h n) m.dom m.tabs)) ⟨[], f, c, rfl, ?_, m.fn, m.co⟩
  simp [Reps]
theorem l_cons {a : Expr} {as : List Expr} {ma : Ex D} {ms : Ex (List D)} (ha : PE X a (sE g W ma)) (hs : PA X as (sem g W (RL g L (lamQ X) (lamCl X L)) ms)) (hst : starEach (a :: as) X.env = (false, eval a X.env) :: starEach as X.env := by rfl) :
    PA X (a :: as) (sem g W (RL g L (lamQ X) (lamCl X L)) (mCons ma ms)) := imA (pa_cons ha hs hst) fun σ H Q q => by
  obtain ⟨e, ι, B, O, ρ, μ, b1, p⟩ := q
  refine ⟨e, ι, B, O, ρ, μ, b1, (Post.bind (R := RD g) p).imp fun vx H1 ⟨x, ι1, B1, μ1, x1, b1, r1, p1⟩ => ?_⟩
  refine ⟨e, ι1, B1, O, ρ, μ1, b1, (Post.bind (R := RL g L (lamQ X) (lamCl X L)) p1).imp fun ws H2 ⟨xs, ι2, B2, μ2, x2, b2, r2, p2⟩ => ?_⟩
  obtain ⟨vs, f, c, e1, e2, e3, e4⟩ := r2
  refine p2 (vx :: ws) ι2 B2 H2 (.refl _ _ _) b2 ⟨vx :: vs, f, c, by rw [e1]; rfl, ?_, e3, e4⟩
  simp only [Reps]
  exact ⟨vx, vs, rfl, r1.step (x2.two b1.sk.inB), e2⟩
/-- what slots hold for a lambda -/
def caps (ρ : Env') : List Nat → Option (List D)
  | [] => some []
  | j :: js => match ρ[j]? with
    | some (.val d) => (caps ρ js).map (d :: ·)
    | _ => none
theorem caps_rep {e : En} {ι : List Addr} {B : Addr → Prop} {O : Nat → Option Addr} {ρ : Env'} {μ : Sto} {σ : L2.St} {H : Hp} (b : BR g e ι B O ρ μ σ H) : ∀ {js : List Nat} {cs : List D}, caps ρ js = some cs →
    ∃ us : List V, us.length = js.length ∧ RepAs g B ι H cs us ∧ ∀ (i j : Nat), js[i]? = some j → ∃ v, us[i]? = some v ∧ σ[j]? = some (some v)
  | [], cs, h => by
    simp only [caps, Option.some.injEq] at h
    subst h
    exact ⟨[], rfl, by simp [RepAs], fun i j h => by simp at h⟩
  | j :: js, cs, h => by
    unfold caps at h
    split at h
    · rename_i d hd
      cases hc : caps ρ js with
      | none => rw [hc] at h; cases h
      | some cs' =>
        rw [hc] at h
        cases h
        obtain ⟨us, h1, h2, h3⟩ := caps_rep b hc
        obtain ⟨v, q1, q2⟩ := b.sl j _ hd
        refine ⟨v :: us, by simp [h1], ?_, fun i j' hj => ?_⟩
        · simp only [RepAs]
          exact ⟨v, us, rfl, q2, h2⟩
        · cases i with
          | zero =>
            simp at hj
            subst hj
            exact ⟨v, rfl, q1⟩
          | succ i => exact h3 i j' (by simpa using hj)
    · cases h
def mAppL (n : Nat) (f : List D → Sto → Rs D) (k : Nat) (js : List Nat) (as : Ex (List D)) : Ex D := fun ρ μ => (as ρ μ).bind fun ds μ1 => match caps ρ js with
  | some cs => if (ds ++ [D.clo k cs]).length = n then f (ds ++ [.clo k cs]) μ1 else .er
  | none => .er
theorem Reps.snoc {B : Addr → Prop} {ι : List Addr} {H : Hp} : ∀ {ds : List D} {vs : List V} {d : D} {v : V}, RepAs g B ι H ds vs → RepA g B ι H d v → RepAs g B ι H (ds ++ [d]) (vs ++ [v])
  | [], vs, d, v, h, h2 => by
    simp only [RepAs] at h
    subst h
    simp only [List.nil_append, RepAs]
    exact ⟨v, [], rfl, h2, rfl⟩
  | x :: ds, vs, d, v, h, h2 => by
    simp only [RepAs] at h
    obtain ⟨w, r, e, h1, h3⟩ := h
    subst e
    simp only [List.cons_append, RepAs]
    exact ⟨w, r ++ [v], rfl, h1, Reps.snoc h3 h2⟩
/-- the cells that a lambda of this frame has captured, as they stand -/
def cellsAt (h : Heap) (as : List Addr) : Addr → Option Obj := fun b => if b ∈ as then h.get? b else none
theorem cellsAt_some {h : Heap} {as : List Addr} {b : Addr} {o : Obj} (e : cellsAt h as b = some o) : b ∈ as ∧ h.get? b = some o := by
  unfold cellsAt at e
  split at e
  · rename_i hb; exact ⟨hb, e⟩
  · cases e
theorem own_lent {pins : List (Addr × Obj)} {σ : L2.St} {H : Hp} {s : Shared} (I : Inv X pins σ H s) (T : LamT g X k L js) : Lent X.base s.heap (frs X.stack) H (cellsAt s.heap (cellsOf (lamCl X L) L.fr)) ∧
    (∀ y a, (lamCl X L).lookup y = some a → X.env.cells.lookup y = some a ∧ y ∈ L.fr) ∧ (∀ y ∈ L.fr, ∃ a, (lamCl X L).lookup y = some a) := by
  have hf : ∀ y ∈ L.scope.names, y.2 = .free → ∃ c, X.env.cells.lookup y.1 = some c := fun y hy e => (ndef_free T.nd y hy e).elim (fun z => I.ok.has _ (.inl z)) fun z => I.ok.has _ (.inr z)
  have h1 : ∀ y a, (lamCl X L).lookup y = some a → X.env.cells.lookup y = some a ∧ y ∈ L.fr := fun y a e => by
    refine ⟨clo_cm hf e, ?_⟩
    rcases cloFrom_mem (PySem.mem_of_lookup e) with hm | ⟨h1, _⟩
    · cases hm
    · exact T.S.free _ h1 rfl
  have h2 : ∀ y ∈ L.fr, ∃ a, (lamCl X L).lookup y = some a := fun y hy => by
    have hn := ndef_fr T.nd y hy
    obtain ⟨c, hc⟩ := hf (y, .free) hn rfl
    exact ⟨c, clo_has hf hn hc⟩
  have mem : ∀ {a o}, cellsAt s.heap (cellsOf (lamCl X L) L.fr) a = some o → ∃ y, y ∈ L.fr ∧ X.env.cells.lookup y = some a ∧ s.heap.get? a = some o := fun {a o} e => by
    obtain ⟨ha, ho⟩ := cellsAt_some e
    obtain ⟨y, hy, hl⟩ := List.mem_filterMap.mp ha
    exact ⟨y, hy, (h1 y a hl).1, ho⟩
  have old : ∀ {a o}, cellsAt s.heap (cellsOf (lamCl X L) L.fr) a = some o → X.s_0.heap.objs.size ≤ a := fun {a o} e => by
    obtain ⟨y, hy, hl, _⟩ := mem e
    exact I.ok.cab y a (T.own y hy) hl
  refine ⟨⟨fun a o e => (mem e).elim fun y h => h.2.2, fun a o e => ?_, fun a o e hm => ?_, fun a o e => ?_⟩, h1, h2⟩
  · obtain ⟨y, hy, hl, _⟩ := mem e
    exact I.freeC y a hl
  · obtain ⟨y, hy, hl, _⟩ := mem e
    rcases List.mem_cons.mp (I.stkSub a hm) with z | z
    · exact I.cne y a hl z
    · obtain ⟨_, o', ho', _⟩ := I.ok.funs.mem z
      exact absurd (Nat.lt_of_lt_of_le (Heap.lt_size ho') (old e)) (Nat.lt_irrefl _)
  · cases q : X.base.get? a with
    | none => rfl
    | some o' => exact absurd (Nat.lt_of_lt_of_le (Heap.lt_size (I.ok.bs a o' q).1) (old e)) (Nat.lt_irrefl _)
theorem e_callL {n lv : Nat} {f : Addr} {fd : FuncData} {ps : List Str} {x : Str} {p pos : Pos} {a : Expr} {as : List Expr} {mf : List D → Sto → Rs D} {ms : Ex (List D)} (tk : Takes X W) (T : LamT g X k L js)
    (F : FnOk X.prog X.w X.K X.mg X.base (L2.CX X.prog X.w) lv f fd ps (spF g n mf)) (hr : Room lv X.A) (hg : Gl X x) (hm : X.mg x = some (.ref f)) (hk : PySem.W.keepIn X.K (.ref f) = true) (hb : Binds X.K fd ps []) (ha : PA X (a :: as) (sem g W (RL g L (lamQ X) (lamCl X L)) ms))
    (hdb : (x == ("__debug__" : Str)) = false := by decide) (he : starEach (a :: as) X.env = (false, eval a X.env) :: starEach as X.env := by rfl) (hpl : (backTo pos (starEach as X.env)).any (·.1) = false := by rfl) :
    PE X (.Call (.Name x p) (a :: as) [] pos) (sE g W (mAppL n mf k js ms)) := by
  refine ⟨fun pins s σ H Q I h => ?_⟩
  obtain ⟨e, ι, B, O, ρ, μ, b1, pp⟩ := h
  refine wpAny_Call_Name_kw (ld_glob I hg hm ?_ hdb)
  refine PySem.W.callWith_K (h₀ := X.base) I.ok.mod.kin hk (thn (ha.run pos pins s σ H _ I ⟨e, ι, B, O, ρ, μ, b1, Post.bind (R := RL g L (lamQ X) (lamCl X L)) pp⟩) fun us s1 ⟨ws, H1, I1, r, q⟩ => ⟨I1.kIn, ?_⟩) he hpl
  obtain ⟨ds, ι1, B1, μ1, x1, b2, rl, p1⟩ := q
  obtain ⟨vs, f', c', ew, rds, hf', hc'⟩ := rl
  cases hcap : caps ρ js with
  | none => rw [hcap] at p1; exact p1.elim
  | some cs =>
    rw [hcap] at p1
    by_cases hl : (ds ++ [D.clo k cs]).length = n
    · simp only [if_pos hl] at p1
      obtain ⟨ln, h1, h2⟩ := own_lent I1 T
      have hφ := ln.free
      obtain ⟨ul, hul, ru, hu⟩ := caps_rep b2 hcap
      generalize hP : cellsAt s1.heap (cellsOf (lamCl X L) L.fr) = φ at ln hφ
      have hjl : js.length = L.fr.length := by simpa using congrArg List.length T.js
      have hide_eq : hide (lend H1 φ) (cellsOf (lamCl X L) L.fr) = H1 := by
        funext b
        unfold hide
        split
        · rename_i hb
          obtain ⟨y, hy, hyl⟩ := List.mem_filterMap.mp hb
          exact (I1.freeC y b (h1 y b hyl).1).symm
        · rename_i hb
          refine lend_none ?_
          rw [← hP]
          unfold cellsAt
          rw [if_neg hb]
      have rc : RepC g B1 ι1 (lend H1 φ) (.clo k cs) (.ref f') := by
        simp only [RepC]
        refine ⟨f', c', lamQ X, lamCl X L, L, ul, T.at_, rfl, lend_up ln hf', lend_up ln hc', by rw [hul, hjl], fun x y a e1 e2 => I1.ok.inj x y a (h1 x a e1).1 (h1 y a e2).1, fun y a e => (h1 y a e).2, fun i y hy => ?_, by rw [hide_eq]; exact ru⟩
        obtain ⟨ca, hca⟩ := h2 y (List.mem_of_getElem? hy)
        have hcell := (h1 y ca hca).1
        have e2 : (js.map fun j => X.N[j]?)[i]? = some (some y) := by rw [T.js, List.getElem?_map, hy]; rfl
        rw [List.getElem?_map] at e2
        cases ej : js[i]? with
        | none => rw [ej] at e2; cases e2
        | some j =>
          rw [ej] at e2
          have hj : X.N[j]? = some y := Option.some.inj (show some (X.N[j]?) = some (some y) from e2)
          obtain ⟨v, hv1, hv2⟩ := hu i j ej
          obtain ⟨m, hn, hlk⟩ := I1.loc
          have kind : X.env.scope.names.lookup y = some .cell ∨ X.env.scope.names.lookup y = some .free := ndef_free T.nd (y, .free) (ndef_fr T.nd y (List.mem_of_getElem? hy)) rfl
          obtain ⟨u, ru1, lk⟩ := hlk j y v hj hv2 (kind.elim (fun z => .inr (.inl z)) fun z => .inr (.inr z))
          rcases lk with ⟨z, _⟩ | ⟨_, a', ha', hc2⟩
          · have z' : X.env.scope.names.lookup y = some .local := z
            rcases kind with k2 | k2 <;> rw [k2] at z' <;> cases z'
          · rw [hcell] at ha'
            cases ha'
            obtain ⟨o, ho, hod⟩ := hc2
            have hm2 : ca ∈ cellsOf (lamCl X L) L.fr := List.mem_filterMap.mpr ⟨y, List.mem_of_getElem? hy, hca⟩
            have hφc : φ ca = some o := by
              rw [← hP]
              unfold cellsAt
              rw [if_pos hm2, ho]
            exact ⟨ca, o, u, v, hca, lend_some hφc, fun z => b2.sk.dom ca z (hφ ca o hφc), hod, hv1, ru1⟩
      have stepR : RepAs g B1 ι1 (lend H1 φ) ds vs := (rds.as).step ((Ext.lend hφ).two b2.sk.inB)
      have sp : spF g n mf ws (lend H1 φ) (fun v H' => Q v (unlend H' φ)) (fun cls d H' => W cls d σ (unlend H' φ)) := by
        refine ⟨ι1, B1, ds ++ [.clo k cs], μ1, b2.sk.lend hφ, by rw [ew]; exact Reps.snoc stepR (.inr rc), hl, ?_⟩
        cases hmf : mf (ds ++ [.clo k cs]) μ1 with
        | ok d μ' =>
          rw [hmf] at p1
          exact fun v ι' B' H' x kk r => p1 v ι' B' _ (x.unlend hφ) (b2.step (x.unlend hφ) (kk.unlend b2.sk x hφ)) (Rep.keeps (Keeps.unlend x) r)
        | ex d μ' =>
          rw [hmf] at p1
          exact fun cls dx ι' B' H' x kk r => p1 cls dx ι' B' _ (x.unlend hφ) (b2.step (x.unlend hφ) (kk.unlend b2.sk x hφ)) (RepX.keeps (Keeps.unlend x) r)
        | er => rw [hmf] at p1; exact p1.elim
      have hul2 : us.length = ps.length := by rw [← r.length]; exact F.len _ _ _ _ sp
      have bnd := hb s1 us I1.kIn (by rw [List.append_nil]; exact hul2)
      rw [List.append_nil] at bnd
      refine wpAny_call (codeAny_mono (F.run X.A X.stack s1 (lend H1 φ) ⟨us, []⟩ us ws _ _ hr (Env0.lend I1.env0 ln) bnd r sp) fun r s' hq => ?_)
      cases r with
      | error ev => exact passAt tk σ pins H1 s1 ev s' I1 (CX.unlend ln hq fun cls d H' _ z => z)
      | ok fl =>
        cases fl with
        | ret u => exact I1.after (CE.unlend ln hq fun v H' _ z => z)
        | next => exact False.elim hq
        | brk => exact False.elim hq
        | cont => exact False.elim hq
    · simp only [if_neg hl] at p1
      exact p1.elim
end
end MP

set_option Elab.async false
set_option linter.all false
set_option maxRecDepth 100000
set_option maxHeartbeats 4000000
/-! a closure is called -/
namespace MP
open PySem PySem.Spec PyProof.Rows L2 NdefX
/-- what was hidden stands again -/
def back (H H' : Hp) (as : List Addr) : Hp := fun b => if b ∈ as then H b else H' b
section
variable {P : Program} {w : World} {K : PySem.W.Frag} {mg : Str → Option Value} {base : Heap} {A : Around} {outer : List Env} {s s' : Shared} {H : Hp} {as : List Addr}
/-- the places as bear cells that are told -/
def CellsTold (H : Hp) (as : List Addr) : Prop := ∀ a ∈ as, ∃ o, H a = some (FixO o)
theorem hide_up {a : Addr} {o : HO} (c : CellsTold H as) (e : H a = some o) (n : ∀ ob, o ≠ FixO ob) : hide H as a = some o := by
  unfold hide
  split
  · rename_i ha
    obtain ⟨ob, q⟩ := c a ha
    rw [e] at q
    cases q
    exact absurd rfl (n ob)
  · exact e
theorem hide_of {a : Addr} {o : HO} (e : hide H as a = some o) : H a = some o ∧ a ∉ as := by
  unfold hide at e
  split at e
  · cases e
  · rename_i ha; exact ⟨e, ha⟩
theorem hide_in {a : Addr} (h : a ∈ as) : hide H as a = none := by unfold hide; rw [if_pos h]
theorem hide_out {a : Addr} (h : a ∉ as) : hide H as a = H a := by unfold hide; rw [if_neg h]
theorem back_in {H' : Hp} {a : Addr} (h : a ∈ as) : back H H' as a = H a := by unfold back; rw [if_pos h]
theorem back_out {H' : Hp} {a : Addr} (h : a ∉ as) : back H H' as a = H' a := by unfold back; rw [if_neg h]
theorem HOk.hide {h : Heap} (k : HOk P w H h) (c : CellsTold H as) : HOk P w (hide H as) h := fun a o e => by
  obtain ⟨e1, _⟩ := hide_of e
  exact (k a o e1).stay (fun b u _ z => z) (fun b z => hide_up c z fun ob q => by cases q) fun b xs z => hide_up c z fun ob q => by cases q
theorem Env0.hide (e : Env0 P w K mg base A outer s H) (c : CellsTold H as) : Env0 P w K mg base A outer s (hide H as) := by
  refine ⟨e.frames, e.mod, fun b o z => ⟨(e.bs b o z).1, ?_⟩, e.bsz, e.funs, fun b hb => ?_, HOk.hide e.hok c, e.bare⟩
  · by_cases hb : b ∈ as
    · exact hide_in hb
    · rw [hide_out hb]; exact (e.bs b o z).2
  · by_cases hb2 : b ∈ as
    · exact hide_in hb2
    · rw [hide_out hb2]; exact e.frf b hb
theorem back_ok {h : Heap} {H' : Hp} (k : HOk P w H' h) (none_ : ∀ a ∈ as, H' a = none) (c : ∀ a ∈ as, ∃ o, H a = some (FixO o) ∧ h.get? a = some o) : HOk P w (back H H' as) h := fun a o e => by
  by_cases ha : a ∈ as
  · rw [back_in ha] at e
    obtain ⟨ob, q1, q2⟩ := c a ha
    rw [q1] at e
    cases e
    exact ⟨q2, ob, q2⟩
  · rw [back_out ha] at e
    refine (k a o e).stay (fun b u _ z => z) (fun b z => ?_) fun b xs z => ?_
    · by_cases hb : b ∈ as
      · rw [none_ b hb] at z; cases z
      · rw [back_out hb]; exact z
    · by_cases hb : b ∈ as
      · rw [none_ b hb] at z; cases z
      · rw [back_out hb]; exact z
theorem CE.back {Q Q' : VK} {u : Value} (c : CellsTold H as) (hok0 : HOk P w H s.heap) (frf : ∀ b ∈ frs outer, H b = none) (ce : CE outer P w (hide H as) s Q u s') (h : ∀ v H', (∀ a ∈ as, H' a = none) → Q v H' → Q' v (back H H' as)) : CE outer P w H s Q' u s' := by
  obtain ⟨v, H', os, bare, un, hok, r, q⟩ := ce
  have told : ∀ a ∈ as, ∃ o, H a = some (FixO o) ∧ s.heap.get? a = some o := fun a ha => by
    obtain ⟨o, e⟩ := c a ha
    exact ⟨o, e, (show s.heap.get? a = some o ∧ _ from hok0 a _ e).1⟩
  have nofr : ∀ a ∈ as, a ∉ frs outer := fun a ha hf => by
    obtain ⟨o, e⟩ := c a ha
    rw [frf a hf] at e; cases e
  have nn : ∀ a ∈ as, H' a = none := fun a ha => by
    obtain ⟨o, e, e2⟩ := told a ha
    exact un.free a o e2 (hide_in ha) (by simp)
  have out : ∀ {b}, H b = none → b ∉ as := fun {b} n hb => by
    obtain ⟨o, e⟩ := c b hb
    rw [n] at e; cases e
  refine ⟨v, MP.back H H' as, os, bare, ⟨fun b o e n hb hx => ?_, fun b o e n hb hx => ?_, fun b o e n hx => ?_, fun b o e hx => un.there b o e hx, fun b xs e => ?_, fun b o z e => ?_, fun b ps e => ?_⟩, back_ok hok nn fun a ha => ?_, r, h v H' nn q⟩
  · exact un.keep b o e (by rw [hide_out (out n)]; exact n) hb hx
  · exact un.slot b o e (by rw [hide_out (out n)]; exact n) hb hx
  · rw [back_out (out n)]
    exact un.free b o e (by rw [hide_out (out n)]; exact n) hx
  · have e2 := hide_up c e (fun ob q => by cases q)
    rw [back_out (hide_of e2).2]
    exact un.tups b xs e2
  · by_cases hb : b ∈ as
    · rw [back_in hb]; exact e
    · rw [back_out hb]
      exact un.frzs b o z (by rw [hide_out hb]; exact e)
  · have e2 := hide_up c e (fun ob q => by cases q)
    rw [back_out (hide_of e2).2]
    exact un.tbls b ps e2
  · obtain ⟨o, e, e2⟩ := told a ha
    exact ⟨o, e, un.keep a o e2 (hide_in ha) (nofr a ha) (by simp)⟩
theorem CX.back {E E' : XK} {u : Value} (c : CellsTold H as) (hok0 : HOk P w H s.heap) (frf : ∀ b ∈ frs outer, H b = none) (ce : L2.CX P w outer (hide H as) s E u s') (h : ∀ cls d H', (∀ a ∈ as, H' a = none) → E cls d H' → E' cls d (back H H' as)) : L2.CX P w outer H s E' u s' := by
  obtain ⟨a, G, H', cls, d, e, fl, hok, ub, na, os, bare, q⟩ := ce
  have told : ∀ a ∈ as, ∃ o, H a = some (FixO o) ∧ s.heap.get? a = some o := fun a ha => by
    obtain ⟨o, e⟩ := c a ha
    exact ⟨o, e, (show s.heap.get? a = some o ∧ _ from hok0 a _ e).1⟩
  have nofr : ∀ a ∈ as, a ∉ frs outer := fun a ha hf => by
    obtain ⟨o, e⟩ := c a ha
    rw [frf a hf] at e; cases e
  have nn : ∀ a ∈ as, H' a = none := fun a ha => by
    obtain ⟨o, e, e2⟩ := told a ha
    exact ub.free a o e2 (hide_in ha)
  have out : ∀ {b}, H b = none → b ∉ as := fun {b} n hb => by
    obtain ⟨o, e⟩ := c b hb
    rw [n] at e; cases e
  have kept : ∀ b ∈ as, ∃ o, H b = some (FixO o) ∧ G.get? b = some o := fun b hb => by
    obtain ⟨o, e, e2⟩ := told b hb
    exact ⟨o, e, ub.keep b o e2 (hide_in hb) (nofr b hb)⟩
  refine ⟨a, G, MP.back H H' as, cls, d, e, fl, back_ok hok nn kept, ⟨fun b o e n hb => ?_, fun b o e hb => ub.slot b o e hb, fun b o e n => ?_, fun b o e hb => ub.there b o e hb, fun b xs e => ?_, fun b o z e => ?_, fun b ps e => ?_⟩, ?_, os, bare, h cls d H' nn q⟩
  · exact ub.keep b o e (by rw [hide_out (out n)]; exact n) hb
  · rw [back_out (out n)]
    exact ub.free b o e (by rw [hide_out (out n)]; exact n)
  · have e2 := hide_up c e (fun ob q => by cases q)
    rw [back_out (hide_of e2).2]
    exact ub.tups b xs e2
  · by_cases hb : b ∈ as
    · rw [back_in hb]; exact e
    · rw [back_out hb]
      exact ub.frzs b o z (by rw [hide_out hb]; exact e)
  · have e2 := hide_up c e (fun ob q => by cases q)
    rw [back_out (hide_of e2).2]
    exact ub.tbls b ps e2
  · by_cases ha : a ∈ as
    · obtain ⟨o, e1, e2⟩ := kept a ha
      -- the exception's own object is none of the cells: it lies outside the ground
      exfalso
      have hf : G.get? a = none := fl.2.1
      rw [e2] at hf
      cases hf
    · rw [back_out ha]; exact na
end
section
variable {g : G} {ι ι' : List Addr} {B B' : Addr → Prop} {μ μ' : Sto} {H H' : Hp} {as : List Addr}
theorem Keeps.hide (c : CellsTold H as) : Keeps H (hide H as) := fun a o e n => hide_up c e n
theorem Sk.hide (k : Sk g ι B μ H) (c : CellsTold H as) (nb : ∀ a ∈ as, ¬ B a) : Sk g ι B μ (hide H as) :=
  k.keeps (Keeps.hide c) fun a b => by
    rw [hide_out fun z => nb a z b]
    exact k.dom a b
theorem Ext.back (x : Ext ι B (hide H as) ι' B' H') (nn : ∀ a ∈ as, H' a = none) (k : Sk g ι' B' μ' H') : Ext ι B H ι' B' (back H H' as) := by
  have up : ∀ {a}, hide H as a = none → a ∉ as → H a = none := fun {a} e h => by rw [hide_out h] at e; exact e
  refine ⟨x.pre, fun a h => ?_, x.mono, fun a h => ?_, fun a o e n => ?_, fun a e => ?_⟩
  · by_cases ha : a ∈ as
    · exact absurd (nn a ha) (k.dom a (k.inB a h))
    · exact (x.newI a h).imp id fun z => up z ha
  · by_cases ha : a ∈ as
    · exact absurd (nn a ha) (k.dom a h)
    · exact (x.newB a h).imp id fun z => up z ha
  · by_cases ha : a ∈ as
    · rw [back_in ha]; exact .inl e
    · rw [back_out ha]
      exact x.fr a o (by rw [hide_out ha]; exact e) n
  · by_cases ha : a ∈ as
    · rw [back_in ha] at e; exact e
    · rw [back_out ha] at e
      exact up (x.dom a e) ha
theorem Keeps.back (nn : ∀ a ∈ as, H' a = none) : Keeps H' (back H H' as) := fun a o e _ => by
  by_cases ha : a ∈ as
  · rw [nn a ha] at e; cases e
  · rw [back_out ha]; exact e
theorem Sk.back (k : Sk g ι' B' μ' H') (nn : ∀ a ∈ as, H' a = none) : Sk g ι' B' μ' (back H H' as) :=
  k.keeps (Keeps.back nn) fun a b => by
    by_cases ha : a ∈ as
    · exact absurd (nn a ha) (k.dom a b)
    · rw [back_out ha]; exact k.dom a b
end
/-- the meanings of closures -/
abbrev CT := Nat → List D → List D → Sto → Rs D
/-- each lambda of the text does what T says -/
structure TOk (g : G) (P : Program) (w : World) (mg : Str → Option Value) (base : Heap) (lv : Nat) (T : CT) : Prop where
  ok : ∀ k L, g.lam k = some L → LamOk g P w mg base lv L (T k)
def mClo (i : Nat) (T : CT) (as : Ex (List D)) : Ex D := fun ρ μ => match ρ[i]? with
  | some (.val (.clo k cs)) => (as ρ μ).bind fun ds μ1 => T k cs ds μ1
  | _ => .er
theorem RepC.cells {g : G} {B : Addr → Prop} {ι : List Addr} {H : Hp} {k : Nat} {cs : List D} {v : V} (r : RepC g B ι H (.clo k cs) v) : ∃ (f c : Addr) (q : Str) (cl : List (Str × Addr)) (L : Lam) (us : List V), g.lam k = some L ∧ v = .ref f ∧ H f = some (LamO f L q cl c) ∧ H c = some (LamX.CodeO c q) ∧
    CellsTold H (cellsOf cl L.fr) ∧ (∀ a ∈ cellsOf cl L.fr, ¬ B a) ∧ RepAs g B ι (hide H (cellsOf cl L.fr)) cs us ∧
    ∀ {P : Program} {w : World} {h : Heap}, HOk P w H h → CellsAt cl L.fr (us.map some) h (hide H (cellsOf cl L.fr)) := by
  simp only [RepC] at r
  obtain ⟨f, c, q, cl, L, us, e1, e2, h1, h2, e3, h3, h4, h5, h6⟩ := r
  have each : ∀ y a, y ∈ L.fr → cl.lookup y = some a → ∃ o u, H a = some (FixO o) ∧ ¬ B a ∧ o.data = .cell (some u) := fun y a hy ha => by
    obtain ⟨i, hi⟩ := List.mem_iff_getElem?.mp hy
    obtain ⟨a', o, u, v, q1, q2, nb, q3, _, _⟩ := h5 i y hi
    rw [ha] at q1
    cases q1
    exact ⟨o, u, q2, nb, q3⟩
  have mem : ∀ a ∈ cellsOf cl L.fr, ∃ y, y ∈ L.fr ∧ cl.lookup y = some a := fun a ha => by
    obtain ⟨y, hy, hl⟩ := List.mem_filterMap.mp ha
    exact ⟨y, hy, hl⟩
  have isin : ∀ y a, y ∈ L.fr → cl.lookup y = some a → a ∈ cellsOf cl L.fr := fun y a hy ha => List.mem_filterMap.mpr ⟨y, hy, ha⟩
  refine ⟨f, c, q, cl, L, us, e1, e2, h1, h2, fun a ha => ?_, fun a ha => ?_, h6, fun {P w h} hok => ⟨by rw [List.length_map, e3], fun y a ha => ?_, fun x y a => h3 x y a, fun i y hy => ?_⟩⟩
  · obtain ⟨y, hy, hl⟩ := mem a ha
    obtain ⟨o, u, q2, _, _⟩ := each y a hy hl
    exact ⟨o, q2⟩
  · obtain ⟨y, hy, hl⟩ := mem a ha
    obtain ⟨o, u, _, nb, _⟩ := each y a hy hl
    exact nb
  · have hy := h4 y a ha
    obtain ⟨o, u, q2, _, q3⟩ := each y a hy ha
    exact ⟨hide_in (isin y a hy ha), some u, o, (show h.get? a = some o ∧ _ from hok a _ q2).1, q3⟩
  · obtain ⟨a, o, u, v, q1, q2, nb, q3, q4, q5⟩ := h5 i y hy
    refine ⟨a, q1, fun v' hv => ?_⟩
    rw [List.getElem?_map, q4] at hv
    cases hv
    exact ⟨u, q5, o, (show h.get? a = some o ∧ _ from hok a _ q2).1, q3⟩
section
variable {g : G} {W : WX} {X : Cx}
theorem e_clo {i lv : Nat} {x : Str} {p pos : Pos} {a : Expr} {as : List Expr} {T : CT} {ms : Ex (List D)} (tk : Takes X W) (hT : TOk g X.prog X.w X.mg X.base lv T) (hK : X.K = g.K) (hr : Room lv X.A)
    (hx : PE X (.Name x p) (tVar i)) (ha : PA X (a :: as) (sD g W ms))
    (he : starEach (a :: as) X.env = (false, eval a X.env) :: starEach as X.env := by rfl) (hpl : (backTo pos (starEach as X.env)).any (·.1) = false := by rfl) :
    PE X (.Call (.Name x p) (a :: as) [] pos) (sE g W (mClo i T ms)) := by
  refine ⟨fun pins s σ H Q I h => ?_⟩
  obtain ⟨e, ι, B, O, ρ, μ, b1, pp⟩ := h
  unfold mClo at pp
  split at pp
  · rename_i k cs hd
    obtain ⟨v, ev, rA⟩ := b1.sl i _ hd
    have rc : RepC g B ι H (.clo k cs) v := by
      rcases rA with z | z
      · simp only [Rep] at z
      · exact z
    obtain ⟨f, c, q, cl, L, us, hL, e2, hf, hc, _⟩ := rc.cells
    subst e2
    refine wpAny_Call_Name_kw (thn (hx.run pins s σ H (fun v H1 => v = .ref f ∧ H1 = H) I ⟨.ref f, ev, rfl, rfl⟩) fun u s1 ⟨v, H1, I1, r1, q1⟩ => ?_)
    obtain ⟨ev1, eH⟩ := q1
    subst ev1
    rw [eH] at I1
    obtain rfl : u = Value.ref f := r1
    have fnAt : ∀ {h : Heap} {H' : Hp} {q' cl' c'}, HOk X.prog X.w H' h → H' f = some (LamO f L q' cl' c') → PySem.W.FnAt f h := fun {h H' q' cl' c'} hok e => by
      obtain ⟨od, sl, pm, ctv, ho⟩ := lamO_at hok e
      exact ⟨_, od, _, sl, ho⟩
    refine PySem.W.callWith_F (first := []) (fnAt I1.hok hf) (thn (ha.run pos pins s1 σ H _ I1 ⟨e, ι, B, O, ρ, μ, b1, Post.bind (R := RDs g) pp⟩) fun us' s2 ⟨vs, H2, I2, r, q2⟩ => ?_) he hpl
    obtain ⟨ds, ι1, B1, μ1, x1, b2, rds, p1⟩ := q2
    -- the closure as it stands now
    have rc2 : RepC g B1 ι1 H2 (.clo k cs) (.ref f) := rc.step (x1.two b1.sk.inB)
    obtain ⟨f', c', q', cl', L', ws, hL', ef, hf', hc', told, nb, rcs, cat⟩ := rc2.cells
    cases ef
    rw [hL] at hL'
    cases hL'
    refine ⟨fnAt I2.hok hf', ?_⟩
    show wpAny _ _ (call (.ref f) us') _ _ _
    have sp : spL g L (T k) ws vs (hide H2 (cellsOf cl' L.fr)) (fun v H' => (∀ a ∈ cellsOf cl' L.fr, H' a = none) → Q v (MP.back H2 H' (cellsOf cl' L.fr))) (fun cls d H' => (∀ a ∈ cellsOf cl' L.fr, H' a = none) → W cls d σ (MP.back H2 H' (cellsOf cl' L.fr))) := by
      refine ⟨ι1, B1, cs, ds, μ1, b2.sk.hide told nb, rcs, (rds.keeps (Keeps.hide told)).as, ?_⟩
      cases hm : T k cs ds μ1 with
      | ok d μ' =>
        rw [hm] at p1
        exact fun v ι' B' H' x kk r nn => p1 v ι' B' _ (x.back nn kk) (b2.step (x.back nn kk) (kk.back nn)) (Rep.keeps (Keeps.back nn) r)
      | ex d μ' =>
        rw [hm] at p1
        exact fun cls dx ι' B' H' x kk r nn => p1 cls dx ι' B' _ (x.back nn kk) (b2.step (x.back nn kk) (kk.back nn)) (RepX.keeps (Keeps.back nn) r)
      | er => rw [hm] at p1; exact p1.elim
    have e0 := I2.env0
    rw [hK] at e0
    have hf2 : hide H2 (cellsOf cl' L.fr) f = some (LamO f L q' cl' c') := hide_up told hf' fun ob z => by cases z
    have hc2 : hide H2 (cellsOf cl' L.fr) c' = some (LamX.CodeO c' q') := hide_up told hc' fun ob z => by unfold LamX.CodeO FixO at z; cases z
    have run := (hT.ok k L hL).run X.A X.stack s2 (hide H2 (cellsOf cl' L.fr)) f c' q' cl' us' vs ws _ _ hr (Env0.hide e0 told) hf2 hc2 (cat I2.hok) r sp
    refine wpAny_call (codeAny_mono run fun r s' hq => ?_)
    cases r with
    | error ev => exact passAt tk σ pins H2 s2 ev s' I2 (CX.back told I2.hok I2.stkFree hq fun cls d H' nn z => z nn)
    | ok fl =>
      cases fl with
      | ret u => exact I2.after (CE.back told I2.hok I2.stkFree hq fun v H' nn z => z nn)
      | next => exact False.elim hq
      | brk => exact False.elim hq
      | cont => exact False.elim hq
  · exact pp.elim
end
end MP

set_option Elab.async false
set_option linter.all false
set_option maxRecDepth 100000
set_option maxHeartbeats 4000000
/-! targets, loops, comprehensions -/
namespace MP
open PySem PySem.Spec PyProof.Rows L2
section
variable {g : G} {e : En} {ι ι' : List Addr} {B B' : Addr → Prop} {O : Nat → Option Addr} {ρ : Env'} {μ μ' : Sto} {σ : L2.St} {H H' : Hp} {p : Addr} {o o' : HO}
theorem TabsN_mut {T : List NdefX.NTab} {H H' : Hp} (t : NdefX.TabsN T H) (h : ∀ b u, H b = some u → ¬ isMut u → H' b = some u) : NdefX.TabsN T H' := fun q hq => by
  obtain ⟨ps, a1, a2, a3⟩ := t q hq
  refine ⟨ps, h _ _ a1 (fun m => m), a2, fun pos cv hc => ?_⟩
  obtain ⟨c, e1, e2⟩ := a3 pos cv hc
  exact ⟨c, e1, h _ _ e2 (fun m => m)⟩
def bar (B : Addr → Prop) (p : Addr) : Addr → Prop := fun a => B a ∨ a = p
def unbar (B : Addr → Prop) (p : Addr) : Addr → Prop := fun a => B a ∧ a ≠ p
/-- fewer barred places -/
theorem BR.less (b : BR g e ι B O ρ μ σ H) (hs : ∀ a, B' a → B a) (hi : ∀ a ∈ ι, B' a) (ho : ∀ i a, O i = some a → B' a) (he : ∀ a, e.B a → B' a) : BR g e ι B' O ρ μ σ H := by
  refine ⟨⟨b.sk.len, b.sk.nd, hi, fun a h => b.sk.dom a (hs a h), fun n ob a h1 h2 => RepO.less hs (b.sk.obs n ob a h1 h2), b.sk.tabs⟩, ⟨b.ext.pre, b.ext.newI, he, fun a h => b.ext.newB a (hs a h), b.ext.fr, b.ext.dom⟩, b.len, fun i s h => ?_, fun i a h => ⟨ho i a h, (b.ow i a h).2⟩, b.inj⟩
  have q := b.sl i s h
  cases s with
  | un => trivial
  | val d =>
    obtain ⟨v, e1, e2⟩ := q
    exact ⟨v, e1, e2.less hs⟩
  | own ds =>
    obtain ⟨a, vs, e1, e2, e3, e4⟩ := q
    exact ⟨a, vs, e1, e2, e3, e4.less hs⟩
  | ownD ks vs =>
    obtain ⟨a, us, e1, e2, e4, e3⟩ := q
    exact ⟨a, us, e1, e2, e4.less hs, e3⟩
theorem BR.slots {ρ' : Env'} {σ' : L2.St} (b : BR g e ι B O ρ μ σ H) (hl : ρ'.length = σ'.length) (h : ∀ (i : Nat) (s : Sl), ρ'[i]? = some s → SlR g B ι H (O i) s σ'[i]?) : BR g e ι B O ρ' μ σ' H :=
  ⟨b.sk, b.ext, hl, h, b.ow, b.inj⟩
/-- a new barred object is laid -/
theorem BR.bar (b : BR g e ι B O ρ μ σ H) (hp : H p = none) : BR g e ι (bar B p) O ρ μ σ (upd H p o) ∧ Ext ι B H ι (bar B p) (upd H p o) := by
  have x0 : Ext ι B H ι B (upd H p o) := Ext.new b.sk.dom hp
  have x : Ext ι B H ι (MP.bar B p) (upd H p o) := ⟨x0.pre, x0.newI, fun a h => .inl h, fun a h => h.elim .inl fun z => .inr (by rw [z]; exact hp), x0.fr, x0.dom⟩
  have k0 := b.sk.new (o := o) hp
  have k : Sk g ι (MP.bar B p) μ (upd H p o) := ⟨k0.len, k0.nd, fun a h => .inl (k0.inB a h), fun a h => by
    rcases h with h | h
    · exact k0.dom a h
    · rw [h, upd_same]; simp, fun n ob a h1 h2 => RepO.step (x.two b.sk.inB) ob (b.sk.obs n ob a h1 h2) fun u h => by rw [upd_ne (ne_of_none h hp)]; exact h, k0.tabs⟩
  exact ⟨b.step x k, x⟩
/-- a barred object that is neither the store's nor a slot's is changed -/
theorem Ex2.poke (hB : B p) (hH : H p = some o) (hm : isMut o) : Ex2 ι B H ι B (upd H p o') :=
  ⟨⟨[], by simp⟩, fun _ h => .inl h, fun _ h => .inl h, fun a u h n m => by
    by_cases ha : a = p
    · subst ha
      rw [hH] at h
      cases h
      exact absurd hB (m hm)
    · rw [upd_ne ha]; exact h, fun a h => by
    by_cases ha : a = p
    · rw [ha, upd_same] at h; cases h
    · rw [upd_ne ha] at h; exact h⟩
theorem Sk.poke (k : Sk g ι B μ H) (hB : B p) (hI : p ∉ ι) (hH : H p = some o) (hm : isMut o) : Sk g ι B μ (upd H p o') := by
  refine ⟨k.len, k.nd, k.inB, fun a h => ?_, fun n ob a h1 h2 => ?_, TabsN_mut k.tabs fun b u h m => by
    by_cases ha : b = p
    · subst ha; rw [hH] at h; cases h; exact absurd hm m
    · rw [upd_ne ha]; exact h⟩
  · by_cases ha : a = p
    · rw [ha, upd_same]; simp
    · rw [upd_ne ha]; exact k.dom a h
  · have ha : a ≠ p := fun z => hI (by rw [← z]; exact List.mem_of_getElem? h2)
    exact RepO.step (Ex2.poke hB hH hm) ob (k.obs n ob a h1 h2) fun u h => by rw [upd_ne ha]; exact h
theorem BR.poke (b : BR g e ι B O ρ μ σ H) (hB : B p) (hI : p ∉ ι) (hO : ∀ i, O i ≠ some p) (hE : e.H p = none) (hH : H p = some o) (hm : isMut o) : BR g e ι B O ρ μ σ (upd H p o') := by
  have x : Ex2 ι B H ι B (upd H p o') := Ex2.poke hB hH hm
  refine ⟨b.sk.poke hB hI hH hm, ⟨b.ext.pre, b.ext.newI, b.ext.mono, b.ext.newB, fun a u h n => ?_, fun a h => ?_⟩, b.len, fun i s h => ?_, b.ow, b.inj⟩
  · have ha : a ≠ p := fun z => by rw [z, hE] at h; cases h
    rcases b.ext.fr a u h n with z | z
    · exact .inl (by rw [upd_ne ha]; exact z)
    · exact .inr z
  · by_cases ha : a = p
    · rw [ha]; exact hE
    · rw [upd_ne ha] at h; exact b.ext.dom a h
  · have q := b.sl i s h
    have ne : ∀ {a}, O i = some a → a ≠ p := fun {a} e1 z => hO i (by rw [e1, z])
    cases s with
    | un => trivial
    | val d =>
      obtain ⟨v, e1, e2⟩ := q
      exact ⟨v, e1, e2.step x⟩
    | own ds =>
      obtain ⟨a, vs, e1, e2, e3, e4⟩ := q
      exact ⟨a, vs, e1, e2, by rw [upd_ne (ne e1)]; exact e3, e4.step x⟩
    | ownD ks vs =>
      obtain ⟨a, us, e1, e2, e4, e3⟩ := q
      refine ⟨a, us, e1, e2, e4.step x, ?_⟩
      rw [upd_ne (ne e1)]
      exact e3
theorem BR.wipe {own : List Nat} (b : BR g e ι B O ρ μ σ H) : BR g e ι B O (own.foldr (fun i r => r.set i .un) ρ) μ (L2.wipe σ own) H := by
  induction own with
  | nil => exact b
  | cons i is ih =>
    refine ih.slots ?_ fun j s h => ?_
    · show ((is.foldr (fun i r => r.set i Sl.un) ρ).set i .un).length = ((L2.wipe σ is).set i none).length
      rw [List.length_set, List.length_set]
      exact ih.len
    · have h : ((is.foldr (fun i r => r.set i Sl.un) ρ).set i .un)[j]? = some s := h
      show SlR g B ι H (O j) s ((L2.wipe σ is).set i none)[j]?
      by_cases hj : i = j
      · subst hj
        rw [List.getElem?_set] at h
        simp only [if_true] at h
        split at h
        · cases h; trivial
        · cases h
      · rw [List.getElem?_set_ne hj] at h ⊢
        exact ih.sl j s h
end
abbrev wipeE (ρ : Env') (own : List Nat) : Env' := own.foldr (fun i r => r.set i .un) ρ

/-! ### targets -/
/-- a target that stores slots alone -/
abbrev Tg := D → Env' → Option Env'
section
variable (g : G)
def TPost (e : En) (is : List Nat) (ι : List Addr) (B : Addr → Prop) (O : Nat → Option Addr) (μ : Sto) (H : Hp) (σ : L2.St) (r : Option Env') (Q : L2.St → Hp → Prop) : Prop := match r with
  | some ρ' => ∀ σ', BR g e ι B O ρ' μ σ' H → (∀ j, j ∉ is → σ'[j]? = σ[j]?) → σ'.length = σ.length → Q σ' H
  | none => False
def sG (is : List Nat) (t : Tg) : TG := fun v σ H Q => ∃ e ι B O ρ μ d, BR g e ι B O ρ μ σ H ∧ Rep g B ι H d v ∧ TPost g e is ι B O μ H σ (t d ρ) Q
def sGs (is : List Nat) (t : List D → Env' → Option Env') : TGs := fun vs σ H Q => ∃ e ι B O ρ μ ds, BR g e ι B O ρ μ σ H ∧ Reps g B ι H ds vs ∧ TPost g e is ι B O μ H σ (t ds ρ) Q
end
def tName (i : Nat) : Tg := fun d ρ => some (ρ.set i (.val d))
def tNil : List D → Env' → Option Env' := fun ds ρ => match ds with
  | [] => some ρ
  | _ => none
def tCons (t : Tg) (u : List D → Env' → Option Env') : List D → Env' → Option Env' := fun ds ρ => match ds with
  | [] => none
  | d :: r => (t d ρ).bind (u r)
def tTup (n : Nat) (t : List D → Env' → Option Env') : Tg := fun d ρ => match d with
  | .tup ds => if ds.length = n then t ds ρ else none
  | _ => none
section
variable {g : G} {W : WX} {X : Cx}
theorem imG {a : Expr} {t t' : TG} (h : PG X a t) (i : ∀ v σ H Q, t' v σ H Q → t v σ H Q) : PG X a t' := ⟨fun p s σ H v u Q I r q => h.run p s σ H v u Q I r (i _ _ _ _ q)⟩
theorem imGs {a : List Expr} {t t' : TGs} (h : PGs X a t) (i : ∀ v σ H Q, t' v σ H Q → t v σ H Q) : PGs X a t' := ⟨fun p s σ H v u Q I r q => h.run p s σ H v u Q I r (i _ _ _ _ q)⟩
theorem g_name {i : Nat} {a : Expr} (h : PG X a (gName i)) : PG X a (sG g [i] (tName i)) := imG h fun v σ H Q q => by
  obtain ⟨e, ι, B, O, ρ, μ, d, b, r, p⟩ := q
  exact p _ (b.set i (.inl r)) (fun j hj => List.getElem?_set_ne (fun z => hj (by simp [z]))) (by simp)
theorem gs_nil : PGs X [] (sGs g [] tNil) := imGs pgs_nil fun vs σ H Q q => by
  obtain ⟨e, ι, B, O, ρ, μ, ds, b, r, p⟩ := q
  cases ds with
  | nil =>
    simp only [Reps] at r
    exact ⟨r, p σ b (fun _ _ => rfl) rfl⟩
  | cons d ds => exact p.elim
theorem gs_cons {a : Expr} {as : List Expr} {is js : List Nat} {t : Tg} {u : List D → Env' → Option Env'} (h1 : PG X a (sG g is t)) (h2 : PGs X as (sGs g js u))
    (hs : (assignEach (a :: as) X.env).map (·.2) = assign a X.env :: (assignEach as X.env).map (·.2) := by rfl) : PGs X (a :: as) (sGs g (is ++ js) (tCons t u)) := imGs (pgs_cons h1 h2 hs) fun vs σ H Q q => by
  obtain ⟨e, ι, B, O, ρ, μ, ds, b, r, p⟩ := q
  cases ds with
  | nil => exact p.elim
  | cons d ds =>
    simp only [Reps] at r
    obtain ⟨v, vr, e1, r1, r2⟩ := r
    refine ⟨v, vr, e1, e, ι, B, O, ρ, μ, d, b, r1, ?_⟩
    unfold tCons at p
    simp only at p
    cases ht : t d ρ with
    | some ρ1 =>
      rw [ht] at p
      intro σ' b' hσ hl
      refine ⟨e, ι, B, O, ρ1, μ, ds, b', r2, ?_⟩
      simp only [Option.bind] at p
      cases hu : u ds ρ1 with
      | some ρ2 =>
        rw [hu] at p
        exact fun σ2 b2 h2 l2 => p σ2 b2 (fun j hj => (h2 j fun z => hj (List.mem_append_right _ z)).trans (hσ j fun z => hj (List.mem_append_left _ z))) (l2.trans hl)
      | none => rw [hu] at p; exact p.elim
    | none => rw [ht] at p; exact p.elim
theorem g_tup (hK : X.K = g.K) {as : List Expr} {k n : Nat} {is : List Nat} {t : List D → Env' → Option Env'} {pos : Pos} (hc : X.calm = true) (h : PGs X as (sGs g is t))
    (hn : (assignEach as X.env).length = n := by rfl) (hst : (assignEach as X.env).findIdx? (·.1) = none := by rfl) : PG X (.Tuple as k pos) (sG g is (tTup n t)) := imG (pg_tup hc h hn hst) fun v σ H Q q => by
  obtain ⟨e, ι, B, O, ρ, μ, d, b, r, p⟩ := q
  unfold tTup at p
  cases d with
  | tup ds =>
    simp only at p
    split at p
    · rename_i hl
      simp only [Rep] at r
      obtain ⟨a, vs, e1, h1, h2⟩ := r
      exact ⟨a, vs, e1, by rw [hK]; exact h1, by rw [← h2.as.len, hl], e, ι, B, O, ρ, μ, ds, b, h2, p⟩
    · exact p.elim
  | _ => exact p.elim
end

/-! ### what is walked -/
/-- J walks ds, whatever happens to what is barred -/
def ItOk (g : G) (J : It) (ds : List D) (ι : List Addr) (B : Addr → Prop) (H : Hp) : Prop :=
  ∀ ι' B' μ' H', Ex2 ι B H ι' B' H' → Sk g ι' B' μ' H' → (∀ i d, ds[i]? = some d → J.go i H' ∧ ∀ x H'', J.yld i H' x H'' → Ext ι' B' H' ι' B' H'' ∧ Sk g ι' B' μ' H'' ∧ Rep g B' ι' H'' d x) ∧ J.stop ds.length H'
section
variable (g : G) (W : WX)
def IPost (e : En) (O : Nat → Option Addr) (ρ : Env') (σ : L2.St) (ι : List Addr) (B : Addr → Prop) (H : Hp) (r : Rs (List D)) (R : It → Hp → Prop) : Prop := match r with
  | .ok ds μ' => ∀ J ι' B' H', Ext ι B H ι' B' H' → BR g e ι' B' O ρ μ' σ H' → ItOk g J ds ι' B' H' → R J H'
  | .ex x μ' => ∀ cls dx ι' B' H', Ext ι B H ι' B' H' → BR g e ι' B' O ρ μ' σ H' → RepX g B' ι' H' x cls dx → W cls dx σ H'
  | .er => False
def sI (src : Ex (List D)) : TI := fun σ H R => ∃ e ι B O ρ μ, BR g e ι B O ρ μ σ H ∧ IPost g W e O ρ σ ι B H (src ρ μ) R
end
section
variable {g : G} {W : WX} {X : Cx} {tg : Expr}
theorem imI {a : Expr} {t t' : TI} (h : PI X tg a t) (i : ∀ σ H R, t' σ H R → t σ H R) : PI X tg a t' := ⟨fun p s σ H R I q => h.run p s σ H R I (i _ _ _ q)⟩
/-- a list or a tuple -/
def mItems (a : Ex D) : Ex (List D) := fun ρ μ => (a ρ μ).bind fun d μ1 => match d with
  | .lst ds => .ok ds μ1
  | .tup ds => .ok ds μ1
  | _ => .er
def mItL (a : Ex D) : Ex (List D) := fun ρ μ => (a ρ μ).bind fun d μ1 => match d with
  | .lst ds => .ok ds μ1
  | _ => .er
def mItT (a : Ex D) : Ex (List D) := fun ρ μ => (a ρ μ).bind fun d μ1 => match d with
  | .tup ds => .ok ds μ1
  | _ => .er
theorem Reps.get {B : Addr → Prop} {ι : List Addr} {H : Hp} {ds : List D} {vs : List V} (h : Reps g B ι H ds vs) {i : Nat} {d : D} (e : ds[i]? = some d) : ∃ v, vs[i]? = some v ∧ Rep g B ι H d v := by
  induction ds generalizing vs i with
  | nil => simp at e
  | cons x xs ih =>
    simp only [Reps] at h
    obtain ⟨v, r, e1, h1, h2⟩ := h
    subst e1
    cases i with
    | zero => simp at e; subst e; exact ⟨v, rfl, h1⟩
    | succ i => exact ih h2 (i := i) (by simpa using e)
theorem itOk_list {ds : List D} {vs : List V} {a : Addr} {ι : List Addr} {B : Addr → Prop} {H : Hp} (h : H a = some (.lst vs)) (nb : ¬ B a) (r : Reps g B ι H ds vs) (hK : X.K = g.K) : ItOk g (Itl X.K a) ds ι B H := by
  intro ι' B' μ' H' x k
  obtain ⟨q, nb'⟩ := x.keep h (fun _ z => by cases z) nb
  have r' := r.step x
  have sq : SqL X.K H' a vs := .of q
  refine ⟨fun i d hd => ?_, ⟨vs, sq, by rw [r.as.len]; exact Nat.le_refl _⟩⟩
  obtain ⟨v, hv, rv⟩ := r'.get hd
  refine ⟨⟨vs, v, sq, hv⟩, fun y H'' hy => ?_⟩
  obtain ⟨e, hy⟩ := hy
  subst e
  have := hy vs sq
  rw [hv] at this
  cases this
  exact ⟨.refl _ _ _, k, rv⟩
theorem itOk_tup {ds : List D} {vs : List V} {a : Addr} {ι : List Addr} {B : Addr → Prop} {H : Hp} (h : SqT g.K H a vs) (r : Reps g B ι H ds vs) (hK : X.K = g.K) : ItOk g (Itt X.K a) ds ι B H := by
  intro ι' B' μ' H' x k
  have r' := r.step x
  have sq : SqT X.K H' a vs := by rw [hK]; exact x.tup h
  refine ⟨fun i d hd => ?_, ⟨vs, sq, by rw [r.as.len]; exact Nat.le_refl _⟩⟩
  obtain ⟨v, hv, rv⟩ := r'.get hd
  refine ⟨⟨vs, v, sq, hv⟩, fun y H'' hy => ?_⟩
  obtain ⟨e, hy⟩ := hy
  subst e
  have := hy vs sq
  rw [hv] at this
  cases this
  exact ⟨.refl _ _ _, k, rv⟩
theorem i_list (hK : X.K = g.K) {a : Expr} {m : Ex D} (h : PE X a (sE g W m)) : PI X tg a (sI g W (mItL m)) := imI (pi_list h) fun σ H R q => by
  obtain ⟨e, ι, B, O, ρ, μ, b, p⟩ := q
  refine ⟨e, ι, B, O, ρ, μ, b, ?_⟩
  unfold mItL at p
  cases hm : m ρ μ with
  | ok d μ' =>
    rw [hm] at p
    intro v ι' B' H' x b' r
    cases d with
    | lst ds =>
      simp only [Rep] at r
      obtain ⟨a, vs, e1, h1, nb, h2⟩ := r
      exact ⟨a, e1, ⟨vs, .of h1⟩, p _ ι' B' H' x b' (itOk_list h1 nb h2 hK)⟩
    | _ => exact p.elim
  | ex d μ' => rw [hm] at p; exact p
  | er => rw [hm] at p; exact p
theorem i_tup (hK : X.K = g.K) {a : Expr} {m : Ex D} (h : PE X a (sE g W m)) : PI X tg a (sI g W (mItT m)) := imI (pi_tup h) fun σ H R q => by
  obtain ⟨e, ι, B, O, ρ, μ, b, p⟩ := q
  refine ⟨e, ι, B, O, ρ, μ, b, ?_⟩
  unfold mItT at p
  cases hm : m ρ μ with
  | ok d μ' =>
    rw [hm] at p
    intro v ι' B' H' x b' r
    cases d with
    | tup ds =>
      simp only [Rep] at r
      obtain ⟨a, vs, e1, h1, h2⟩ := r
      exact ⟨a, e1, ⟨vs, by rw [hK]; exact h1⟩, p _ ι' B' H' x b' (itOk_tup h1 h2 hK)⟩
    | _ => exact p.elim
  | ex d μ' => rw [hm] at p; exact p
  | er => rw [hm] at p; exact p
end
end MP

set_option Elab.async false
set_option linter.all false
set_option maxRecDepth 100000
set_option maxHeartbeats 4000000
/-! loops, comprehensions -/
namespace MP
open PySem PySem.Spec PyProof.Rows L2
def loop (t : Tg) (b : Sm) : List D → Env' → Sto → SRs
  | [], ρ, μ => .nx ρ μ
  | d :: ds, ρ, μ => match t d ρ with
    | some ρ1 => match b ρ1 μ with
      | .nx ρ2 μ2 => loop t b ds ρ2 μ2
      | .ct ρ2 μ2 => loop t b ds ρ2 μ2
      | .bk ρ2 μ2 => .nx ρ2 μ2
      | .rt d μ2 => .rt d μ2
      | .ex x ρ2 μ2 => .ex x ρ2 μ2
      | .er => .er
    | none => .er
def mFor (src : Ex (List D)) (t : Tg) (b : Sm) : Sm := fun ρ μ => (src ρ μ).s ρ fun ds μ1 => loop t b ds ρ μ1
section
variable {g : G} {W : WX} {X : Cx} {tg iter : Expr}
theorem SPost.src {e : En} {ι : List Addr} {B : Addr → Prop} {O : Nat → Option Addr} {ρ : Env'} {μ : Sto} {σ : L2.St} {H : Hp} {r : Rs (List D)} {f : List D → Sto → SRs} {D' : Ends} (b : BR g e ι B O ρ μ σ H) (p : SPost g W e ι B H (r.s ρ f) D') (R : It → Hp → Prop)
    (hR : ∀ ds μ' J ι' B' H', r = .ok ds μ' → Ext ι B H ι' B' H' → BR g e ι' B' O ρ μ' σ H' → ItOk g J ds ι' B' H' → SPost g W e ι' B' H' (f ds μ') D' → R J H') : IPost g W e O ρ σ ι B H r R := by
  cases r with
  | ok ds μ' => exact fun J ι' B' H' x b' i => hR ds μ' J ι' B' H' rfl x b' i (SPost.later (x.two b.sk.inB) p)
  | ex d μ' => exact fun cls dx ι' B' H' x b' r => p cls dx ι' B' O σ H' (x.two b.sk.inB) b' r
  | er => exact p
theorem s_for {body : List Stmt} {src : Ex (List D)} {is : List Nat} {t : Tg} {b : Sm} {pos : Pos} (hp : PassesOwn (model X.prog X.w) X.A X.env X.xe) (hc : X.calm = true) (hi : PI X tg iter (sI g W src)) (hg : PG X tg (sG g is t)) (hb : PSs X body (sS g W b))
    (hs : ∀ x, foldedSetIterable iter X.env x = pure x := by intro _; rfl) : PS X (.For tg iter body [] pos) (sS g W (mFor src t b)) := imS (ps_for hp hc hi hg hb hs) fun D' σ H q => by
  obtain ⟨e, ι, B, O, ρ, μ, br, p⟩ := q
  refine ⟨e, ι, B, O, ρ, μ, br, SPost.src br p _ fun ds μ1 J ι1 B1 H1 hr x1 b1 it p1 => ?_⟩
  refine ⟨fun i m σ' H' => m = ds.length - i ∧ i ≤ ds.length ∧ ∃ ι' B' O' ρ' μ', BR g e ι' B' O' ρ' μ' σ' H' ∧ Ex2 ι1 B1 H1 ι' B' H' ∧ SPost g W e ι' B' H' (loop t b (ds.drop i) ρ' μ') D', ⟨ds.length, by simp, Nat.zero_le _, ι1, B1, O, ρ, μ1, b1, .refl _ _ _, p1⟩, ?_⟩
  rintro i m σ2 H2 ⟨rfl, hi, ι2, B2, O2, ρ2, μ2, b2, x2, p2⟩
  obtain ⟨turn, stop⟩ := it ι2 B2 μ2 H2 x2 b2.sk
  by_cases hlt : i < ds.length
  · have hd : ds[i]? = some ds[i] := List.getElem?_eq_getElem hlt
    obtain ⟨go, yl⟩ := turn i _ hd
    have hdrop : ds.drop i = ds[i] :: ds.drop (i + 1) := List.drop_eq_getElem_cons hlt
    rw [hdrop] at p2
    refine .inr ⟨go, fun σ' H' => ∃ ι' B' O' ρ' μ', BR g e ι' B' O' ρ' μ' σ' H' ∧ Ex2 ι1 B1 H1 ι' B' H' ∧ SPost g W e ι' B' H' (loop t b (ds.drop (i + 1)) ρ' μ') D', fun σ' H' h => ⟨ds.length - (i + 1), by omega, rfl, hlt, h⟩, fun x H3 hy => ?_⟩
    obtain ⟨x3, k3, r3⟩ := yl x H3 hy
    have b3 := b2.step x3 k3
    refine ⟨e, ι2, B2, O2, ρ2, μ2, ds[i], b3, r3, ?_⟩
    unfold loop at p2
    cases ht : t ds[i] ρ2 with
    | some ρ3 =>
      rw [ht] at p2
      simp only at p2
      intro σ4 b4 _ _
      refine ⟨e, ι2, B2, O2, ρ3, μ2, b4, ?_⟩
      have x24 := x3.two b2.sk.inB
      cases hbb : b ρ3 μ2 with
      | nx ρ5 μ5 =>
        rw [hbb] at p2
        exact fun ι5 B5 O5 σ5 H5 x5 b5 => ⟨ι5, B5, O5, ρ5, μ5, b5, (x2.trans x24).trans x5, SPost.later (x24.trans x5) p2⟩
      | ct ρ5 μ5 =>
        rw [hbb] at p2
        exact fun ι5 B5 O5 σ5 H5 x5 b5 => ⟨ι5, B5, O5, ρ5, μ5, b5, (x2.trans x24).trans x5, SPost.later (x24.trans x5) p2⟩
      | bk ρ5 μ5 =>
        rw [hbb] at p2
        exact fun ι5 B5 O5 σ5 H5 x5 b5 => p2 ι5 B5 O5 σ5 H5 (x24.trans x5) b5
      | rt d μ5 =>
        rw [hbb] at p2
        exact p2
      | ex x' ρ5 μ5 =>
        rw [hbb] at p2
        exact fun cls dx ι5 B5 O5 σ5 H5 x5 b5 => p2 cls dx ι5 B5 O5 σ5 H5 (x24.trans x5) b5
      | er => rw [hbb] at p2; exact p2.elim
    | none => rw [ht] at p2; exact p2.elim
  · have ei : i = ds.length := by omega
    subst ei
    rw [List.drop_length] at p2
    unfold loop at p2
    exact .inl ⟨stop, p2 ι2 B2 O2 σ2 H2 (.refl _ _ _) b2⟩

/-! ### while -/
def mWhile (c : Ex Bool) (b : Sm) : Nat → Env' → Sto → SRs
  | 0, _, _ => .er
  | n + 1, ρ, μ => (c ρ μ).s ρ fun x μ1 => if x = true then
      (match b ρ μ1 with
      | .nx ρ2 μ2 => mWhile c b n ρ2 μ2
      | .ct ρ2 μ2 => mWhile c b n ρ2 μ2
      | .bk ρ2 μ2 => .nx ρ2 μ2
      | .rt d μ2 => .rt d μ2
      | .ex x ρ2 μ2 => .ex x ρ2 μ2
      | .er => .er) else .nx ρ μ1
theorem s_while {c : Expr} {body : List Stmt} {mc : Ex Bool} {b : Sm} {pos : Pos} {n : Nat} (hp : PassesOwn (model X.prog X.w) X.A X.env X.xe) (hc : PT X c (sC g W mc)) (hb : PSs X body (sS g W b)) : PS X (.While c body [] pos) (sS g W (mWhile mc b n)) := imS (ps_while hp hc hb) fun D' σ H q => by
  obtain ⟨e, ι, B, O, ρ, μ, br, p⟩ := q
  refine ⟨fun m σ' H' => ∃ ι' B' O' ρ' μ', BR g e ι' B' O' ρ' μ' σ' H' ∧ SPost g W e ι' B' H' (mWhile mc b m ρ' μ') D', ⟨n, ι, B, O, ρ, μ, br, p⟩, ?_⟩
  rintro m σ2 H2 ⟨ι2, B2, O2, ρ2, μ2, b2, p2⟩
  cases m with
  | zero => exact p2.elim
  | succ m =>
    refine ⟨e, ι2, B2, O2, ρ2, μ2, b2, (SPost.bind (R := RB) b2 p2).imp fun v H3 ⟨x, ι3, B3, μ3, x3, b3, r3, p3⟩ => ?_⟩
    obtain rfl : x = v := r3
    cases x with
    | true =>
      simp only [if_true] at p3 ⊢
      refine ⟨fun σ' H' => ∃ ι' B' O' ρ' μ', BR g e ι' B' O' ρ' μ' σ' H' ∧ SPost g W e ι' B' H' (mWhile mc b m ρ' μ') D', fun σ' H' h => ⟨m, Nat.lt_succ_self m, h⟩, e, ι3, B3, O2, ρ2, μ3, b3, ?_⟩
      cases hbb : b ρ2 μ3 with
      | nx ρ5 μ5 =>
        rw [hbb] at p3
        exact fun ι5 B5 O5 σ5 H5 x5 b5 => ⟨ι5, B5, O5, ρ5, μ5, b5, SPost.later x5 p3⟩
      | ct ρ5 μ5 =>
        rw [hbb] at p3
        exact fun ι5 B5 O5 σ5 H5 x5 b5 => ⟨ι5, B5, O5, ρ5, μ5, b5, SPost.later x5 p3⟩
      | bk ρ5 μ5 => rw [hbb] at p3; exact p3
      | rt d μ5 => rw [hbb] at p3; exact p3
      | ex x' ρ5 μ5 => rw [hbb] at p3; exact p3
      | er => rw [hbb] at p3; exact p3.elim
    | false =>
      simp only [Bool.false_eq_true, if_false] at p3 ⊢
      exact p3 ι3 B3 O2 σ2 H3 (.refl _ _ _) b3

/-! ### comprehensions -/
def compL (t : Tg) (c : Ex Bool) (m : Ex D) (ρ : Env') : List D → Sto → Rs (List D)
  | [], μ => .ok [] μ
  | d :: ds, μ => match t d ρ with
    | some ρ1 => match c ρ1 μ with
      | .ok true μ2 => match m ρ1 μ2 with
        | .ok y μ3 => (compL t c m ρ ds μ3).bind fun ys μ4 => .ok (y :: ys) μ4
        | _ => .er
      | .ok false μ2 => compL t c m ρ ds μ2
      | _ => .er
    | none => .er
def big : Nat := 1000000
theorem big_line {n : Nat} (h : n ≤ big) : n < sizeLine := by rw [sizeLine_eq]; unfold big at h; omega
def mComp (src : Ex (List D)) (own : List Nat) (t : Tg) (c : Ex Bool) (m : Ex D) : Ex D := fun ρ μ => (src ρ μ).bind fun ds μ1 => if ds.length ≤ big then (compL t c m (wipeE ρ own) ds μ1).bind fun ys μ2 => .ok (.lst ys) μ2 else .er
abbrev W0 : WX := fun _ _ _ _ => False
theorem Rs.no {α : Type} {e : En} {ι : List Addr} {B : Addr → Prop} {O : Nat → Option Addr} {ρ : Env'} {σ : L2.St} {H : Hp} {β : Type} {R : (Addr → Prop) → List Addr → Hp → α → β → Prop} {r : Rs α} {Q : β → Hp → Prop} (h : ∃ d μ, r = .ok d μ ∧ Post g W0 R e O ρ σ ι B H (.ok d μ) Q) : Post g W0 R e O ρ σ ι B H r Q := by
  obtain ⟨d, μ, e, h⟩ := h
  rw [e]; exact h
theorem wipe_eq {σ σ' : L2.St} {is : List Nat} (h : ∀ j, j ∉ is → σ'[j]? = σ[j]?) (hl : σ'.length = σ.length) : wipe σ' is = wipe σ is := by
  apply List.ext_getElem?
  intro j
  by_cases hj : j ∈ is
  · have key : ∀ (τ : L2.St) (ks : List Nat), j ∈ ks → (wipe τ ks)[j]? = if j < τ.length then some none else none := fun τ ks => by
      induction ks with
      | nil => intro h; cases h
      | cons k ks ih =>
        intro hm
        show ((wipe τ ks).set k none)[j]? = _
        by_cases e : k = j
        · subst e
          rw [List.getElem?_set]
          simp only [if_true, wipe_length]
        · rw [List.getElem?_set_ne e]
          exact ih ((List.mem_cons.mp hm).resolve_left fun z => e z.symm)
    rw [key σ' is hj, key σ is hj, hl]
  · rw [wipe_out hj, wipe_out hj]
    exact h j hj
theorem reps_snoc {B : Addr → Prop} {ι : List Addr} {H : Hp} : ∀ {ds : List D} {vs : List V} {d : D} {v : V}, Reps g B ι H ds vs → Rep g B ι H d v → Reps g B ι H (ds ++ [d]) (vs ++ [v])
  | [], vs, d, v, h, h2 => by
    simp only [Reps] at h
    subst h
    simp only [List.nil_append, Reps]
    exact ⟨v, [], rfl, h2, rfl⟩
  | x :: ds, vs, d, v, h, h2 => by
    simp only [Reps] at h
    obtain ⟨w, r, e, h1, h3⟩ := h
    subst e
    simp only [List.cons_append, Reps]
    exact ⟨w, r ++ [v], rfl, h1, reps_snoc h3 h2⟩
theorem tlc_of {src : Ex (List D)} {own : List Nat} {is : List Nat} {t : Tg} {c : Ex Bool} {m : Ex D} (hsub : ∀ i ∈ is, i ∈ own) :
    ∀ σ H Q, sE g W (mComp src own t c m) σ H Q → tLc (sI g W src) (sG g is t) (sC g W0 c) (sE g W0 m) own σ H Q := fun σ H Q q => by
  obtain ⟨e, ι, B, O, ρ, μ, b, p⟩ := q
  refine ⟨e, ι, B, O, ρ, μ, b, ?_⟩
  unfold mComp at p
  cases hsrc : src ρ μ with
  | er => rw [hsrc] at p; exact p
  | ex x μ' => rw [hsrc] at p; exact p
  | ok ds μ1 =>
    rw [hsrc] at p
    intro J ι1 B1 H1 x1 b1 it D hD
    by_cases hbig : ds.length ≤ big
    · simp only [Rs.bind, if_pos hbig] at p
      obtain ⟨bD, xD⟩ := b1.bar (o := .lst []) hD
      have eD : e.H D = none := b1.ext.dom D hD
      refine ⟨fun i n H' => n = ds.length - i ∧ i ≤ ds.length ∧ ∃ ι' B' μ' acc vacc, BR g e ι' B' O ρ μ' σ H' ∧ Ext ι1 B1 H1 ι' B' H' ∧ B' D ∧ D ∉ ι' ∧ (∀ j, O j ≠ some D) ∧ H' D = some (.lst vacc) ∧ Reps g B' ι' H' acc vacc ∧ acc.length ≤ i ∧
          Post g W (RD g) e O ρ σ ι1 B1 H1 ((compL t c m (wipeE ρ own) (ds.drop i) μ').bind fun ys μ2 => .ok (.lst (acc ++ ys)) μ2) Q,
        ⟨ds.length, by simp, Nat.zero_le _, ι1, bar B1 D, μ1, [], [], bD, xD, .inr rfl, ?_, ?_, upd_same, by simp [Reps], Nat.zero_le _, Post.later x1 p⟩, ?_⟩
      · exact fun z => b1.sk.dom D (b1.sk.inB D z) hD
      · exact fun j z => b1.sk.dom D (b1.ow j D z).1 hD
      rintro i n H2 ⟨rfl, hi, ι2, B2, μ2, acc, vacc, b2, x2, bd2, ni2, no2, h2, r2, la, p2⟩
      obtain ⟨turn, stop⟩ := it ι2 B2 μ2 H2 (x2.two b1.sk.inB) b2.sk
      have ne1 : ∀ {a}, B1 a → a ≠ D := fun {a} h z => b1.sk.dom a h (by rw [z]; exact hD)
      by_cases hlt : i < ds.length
      · have hd : ds[i]? = some ds[i] := List.getElem?_eq_getElem hlt
        obtain ⟨go, yl⟩ := turn i _ hd
        have hdrop : ds.drop i = ds[i] :: ds.drop (i + 1) := List.drop_eq_getElem_cons hlt
        rw [hdrop] at p2
        refine .inr ⟨go, fun H' => ∃ ι' B' μ' acc vacc, BR g e ι' B' O ρ μ' σ H' ∧ Ext ι1 B1 H1 ι' B' H' ∧ B' D ∧ D ∉ ι' ∧ (∀ j, O j ≠ some D) ∧ H' D = some (.lst vacc) ∧ Reps g B' ι' H' acc vacc ∧ acc.length ≤ i + 1 ∧
          Post g W (RD g) e O ρ σ ι1 B1 H1 ((compL t c m (wipeE ρ own) (ds.drop (i + 1)) μ').bind fun ys μ2 => .ok (.lst (acc ++ ys)) μ2) Q, fun H' h => ⟨ds.length - (i + 1), by omega, rfl, hlt, h⟩, fun x H3 hy => ?_⟩
        obtain ⟨x3, k3, r3⟩ := yl x H3 hy
        have b3 := b2.step x3 k3
        refine ⟨e, ι2, B2, O, wipeE ρ own, μ2, ds[i], b3.wipe, r3, ?_⟩
        unfold compL at p2
        cases ht : t ds[i] (wipeE ρ own) with
        | some ρ3 =>
          rw [ht] at p2
          simp only at p2
          intro σ4 b4 hσ hl
          have hw : wipe σ4 own = wipe σ own := by
            have q1 := wipe_eq (is := own) (σ := wipe σ own) (σ' := σ4) (fun j hj => hσ j fun z => hj (hsub j z)) hl
            rw [q1]
            exact wipe_eq (is := own) (fun j hj => wipe_out hj) (wipe_length _ _)
          refine ⟨hw, e, ι2, B2, O, ρ3, μ2, b4, ?_⟩
          have h3D : H3 D = some (.lst vacc) := by
            rcases x3.fr D _ h2 (fun _ z => by cases z) with z | ⟨z, _⟩
            · exact z
            · exact absurd z ni2
          have x23 := x2.trans x3
          have r23 := r2.step (x3.two b2.sk.inB)
          cases hc : c ρ3 μ2 with
          | ok k μ3 =>
            rw [hc] at p2
            intro k' ι5 B5 H5 x5 b5 hk
            obtain rfl : k = k' := hk
            have h5D : H5 D = some (.lst vacc) := by
              rcases x5.fr D _ h3D (fun _ z => by cases z) with z | ⟨z, _⟩
              · exact z
              · exact absurd z ni2
            have ni5 : D ∉ ι5 := fun z => by
              rcases x5.newI D z with w | w
              · exact ni2 w
              · rw [h3D] at w; cases w
            have r5 := r23.step (x5.two b3.sk.inB)
            cases k with
            | false =>
              simp only [Bool.false_eq_true, if_false] at p2 ⊢
              exact ⟨ι5, B5, μ3, acc, vacc, b3.step x5 b5.sk, x23.trans x5, x5.mono D bd2, ni5, no2, h5D, r5, Nat.le_succ_of_le la, p2⟩
            | true =>
              simp only [if_true] at p2 ⊢
              refine ⟨e, ι5, B5, O, ρ3, μ3, b5, ?_⟩
              cases hm : m ρ3 μ3 with
              | ok y μ4 =>
                rw [hm] at p2
                simp only at p2
                intro vy ι6 B6 H6 x6 b6 ry
                have h6D : H6 D = some (.lst vacc) := by
                  rcases x6.fr D _ h5D (fun _ z => by cases z) with z | ⟨z, _⟩
                  · exact z
                  · exact absurd z ni5
                have ni6 : D ∉ ι6 := fun z => by
                  rcases x6.newI D z with w | w
                  · exact ni5 w
                  · rw [h5D] at w; cases w
                have bd6 : B6 D := x6.mono D (x5.mono D bd2)
                have r6 := r5.step (x6.two b5.sk.inB)
                have bb6 := (b3.step x5 b5.sk).step x6 b6.sk
                have xx6 := (x23.trans x5).trans x6
                have pk : Ex2 ι6 B6 H6 ι6 B6 (upd H6 D (.lst (vacc ++ [vy]))) := Ex2.poke bd6 h6D trivial
                refine ⟨vacc, h6D, big_line (by rw [← r6.as.len]; omega), ι6, B6, μ4, acc ++ [y], vacc ++ [vy], bb6.poke bd6 ni6 no2 eD h6D trivial, ?_, bd6, ni6, no2, upd_same, (reps_snoc r6 ry).step pk, by rw [List.length_append]; exact Nat.succ_le_succ la, ?_⟩
                · refine ⟨xx6.pre, xx6.newI, xx6.mono, xx6.newB, fun a u h n => ?_, fun a h => ?_⟩
                  · have ha : a ≠ D := fun z => by rw [z, hD] at h; cases h
                    rw [upd_ne ha]
                    exact xx6.fr a u h n
                  · by_cases ha : a = D
                    · rw [ha]; exact hD
                    · rw [upd_ne ha] at h; exact xx6.dom a h
                · have e1 : ∀ (r : Rs (List MP.D)), ((r.bind fun ys μ4 => Rs.ok (y :: ys) μ4).bind fun ys μ2 => Rs.ok (MP.D.lst (acc ++ ys)) μ2) = r.bind fun ys μ2 => Rs.ok (MP.D.lst ((acc ++ [y]) ++ ys)) μ2 := fun r => by
                    cases r with
                    | ok ys μ => simp [Rs.bind]
                    | ex x μ => rfl
                    | er => rfl
                  rw [e1] at p2
                  exact p2
              | ex x μ4 => rw [hm] at p2; exact p2.elim
              | er => rw [hm] at p2; exact p2.elim
          | ex x μ3 => rw [hc] at p2; exact p2.elim
          | er => rw [hc] at p2; exact p2.elim
        | none => rw [ht] at p2; exact p2.elim
      · have ei : i = ds.length := by omega
        subst ei
        rw [List.drop_length] at p2
        simp only [compL, Rs.bind, List.append_nil] at p2
        have noB : ∀ a, unbar B2 D a → B2 a := fun a z => z.1
        have bu : BR g e ι2 (unbar B2 D) O ρ μ2 σ H2 := b2.less noB (fun a h => ⟨b2.sk.inB a h, fun z => ni2 (by rw [← z]; exact h)⟩) (fun j a h => ⟨(b2.ow j a h).1, fun z => no2 j (by rw [h, z])⟩) (fun a h => ⟨b2.ext.mono a h, ne1 (b1.ext.mono a h)⟩)
        have xu : Ext ι1 B1 H1 ι2 (unbar B2 D) H2 := ⟨x2.pre, x2.newI, fun a h => ⟨x2.mono a h, ne1 h⟩, fun a h => x2.newB a h.1, x2.fr, x2.dom⟩
        refine .inl ⟨stop, p2 (.ref D) ι2 (unbar B2 D) H2 xu bu ?_⟩
        simp only [Rep]
        exact ⟨D, vacc, rfl, h2, fun z => z.2 rfl, Reps.less noB r2⟩
    · simp only [Rs.bind, if_neg hbig] at p
      exact p.elim
end
end MP

set_option Elab.async false
set_option linter.all false
set_option maxRecDepth 100000
set_option maxHeartbeats 4000000
/-! enumerate over a tuple -/
namespace PySem
open Sem (wp)
open AutoSeq1 (wpAny_loadPart')
theorem mp_enum_newT (l : Addr) (items : Array Value) (n : Nat) (dct : Option Addr) (sl : Array (Option Value)) :
    Meets (Builtin.«enumerate.__new__» ⟨[.type "enumerate", .ref l], []⟩) (fun _ R s => s.heap.get? l = some { cls := .type "tuple", dict := dct, data := .seq items n, slots := sl } ∧
      R (.ok (.ret (.ref (s.heap.push { cls := .type "tuple_iterator", data := .fields #[.ref l, .int 0 0] }).objs.size)))
        { s with heap := (s.heap.push { cls := .type "tuple_iterator", data := .fields #[.ref l, .int 0 0] }).push { cls := .type "enumerate", data := .fields #[.none, .bool false, .ref s.heap.objs.size, rawInt 0, .none, .none] } }) :=
  .of_wp fun prog w A R s h => by
    obtain ⟨hp, g, d, tk, os⟩ := s; obtain ⟨hl, h⟩ := h
    have hsub := sub_enumerate
    have hT : Heap.IsTuple (Shared.heap ⟨hp, g, d, tk, os⟩) l items := ⟨_, hl, rfl, n, rfl⟩
    wp_walk using wpAny_loadPart' hl
    refine wpAny_stack_any fun st => wpAny_pure ?_
    split
    · rename_i c _ _ _ _ _
      cases (c == Value.type "enumerate")
      · wp_walk using wpAny_loadPart' hl, wpAny_pyIter_tuple hT
        exact ⟨_, rfl, h⟩
      · wp_walk using wpAny_loadPart' hl, wpAny_pyIter_tuple hT
        exact ⟨_, rfl, h⟩
    · wp_walk using wpAny_loadPart' hl, wpAny_pyIter_tuple hT
      exact ⟨_, rfl, h⟩
theorem mp_call_enumT {prog : Program} {w : World} {A : Around} {E : Value → Shared → Prop} {s : Shared} {l : Addr} {items : Array Value} {Q : Value → Shared → Prop} (hT : s.heap.IsTuple l items)
    (h : ∀ h', IsEnum h' (s.heap.objs.size + 1) s.heap.objs.size 0 .none → h'.IsTupleIter s.heap.objs.size l 0 → h'.objs.size = s.heap.objs.size + 2 →
      (∀ b o, s.heap.get? b = some o → h'.get? b = some o) → Q (.ref (s.heap.objs.size + 1)) { s with heap := h' }) : wpAny (model prog w) A (call (.type "enumerate") [.ref l]) Q E s := by
  obtain ⟨⟨c, dct, dt, sl⟩, hl, hc, n, hd⟩ := hT
  replace hc : c = .type "tuple" := hc
  replace hd : dt = .seq items n := hd
  subst hc hd
  refine callType_new F.called_enumerate (by decide) (F.typeCall_enumerate_1 _) (F.newCall_enumerate_1 _) (fun obj => F.args_object_init_2 obj _) F.entry_enumerate_new
    (mp_enum_newT l items n dct sl) ⟨hl, ?_⟩
  have hz : (s.heap.push { cls := .type "tuple_iterator", data := .fields #[.ref l, .int 0 0] }).objs.size = s.heap.objs.size + 1 := Heap.size_push ..
  show _ ∧ _
  rw [hz]
  have he : IsEnum ((s.heap.push { cls := .type "tuple_iterator", data := .fields #[.ref l, .int 0 0] }).push
      { cls := .type "enumerate", data := .fields #[.none, .bool false, .ref s.heap.objs.size, rawInt 0, .none, .none] }) (s.heap.objs.size + 1) s.heap.objs.size 0 .none := by
    have q := Heap.get?_push_size (s.heap.push { cls := .type "tuple_iterator", data := .fields #[.ref l, .int 0 0] })
      (o := { cls := .type "enumerate", data := .fields #[.none, .bool false, .ref s.heap.objs.size, rawInt 0, .none, .none] }) rfl
    rw [hz] at q; exact q
  exact ⟨⟨_, he, rfl⟩, h _ he ⟨_, Heap.get?_push_of_some _ (Heap.get?_push_size _ rfl), rfl, rfl⟩ (by rw [Heap.size_push, hz]) fun b o x => Heap.get?_push_of_some _ (Heap.get?_push_of_some _ x)⟩
end PySem
namespace MP
open PySem PySem.Spec PyProof.Rows L2
/-- the tuple at a, each item in a new pair -/
def IteT (K : PySem.W.Frag) (a : Addr) : It :=
  ⟨fun i H => ∃ (xs : List V) (x : V), SqT K H a xs ∧ xs[i]? = some x, fun i H v H' => ∃ T x, v = .ref T ∧ H T = none ∧ H' = upd H T (.tup [.int (i : Nat), x]) ∧ ∀ xs, SqT K H a xs → xs[i]? = some x, fun i H => ∃ xs : List V, SqT K H a xs ∧ xs.length = i⟩
theorem turn_enumT {P : Program} {w : World} {K : PySem.W.Frag} {elts : List Expr} {kk : Nat} {tpos : Pos} (a e it : Addr) (items : Array Value) :
    Turn P w K (.Tuple elts kk tpos) (IteT K a) [e, it] e (fun i h => (∃ old, IsEnum h e it ((i : Nat) : Int) old) ∧ h.IsTupleIter it a i ∧ e ≠ it ∧ a ≠ it ∧ a ≠ e) where
  mem := by simp
  obj := fun i h st b hb => by
    obtain ⟨⟨old, he⟩, ⟨o, ho, hc, hd⟩, _⟩ := st
    have e' : b = e ∨ b = it := by simpa using hb
    rcases e' with z | z
    · rw [z]; exact ⟨_, he, fun v q => nomatch q⟩
    · rw [z]; exact ⟨o, ho, fun v q => by rw [hd] at q; cases q⟩
  keep := fun i h h' st k => let ⟨⟨old, he⟩, hi, hne⟩ := st; ⟨⟨old, k e (by simp) _ he⟩, hi.at fun o q => k it (by simp) o q, hne⟩
  item := by
    intro X hP hw hK hc i pins s σ H E I hf st hg
    subst hP hw hK
    obtain ⟨⟨old, he⟩, hit, hne, hai, hae⟩ := st
    obtain ⟨xs, x, hq, hx⟩ := hg
    obtain ⟨its, rv, p, hz⟩ := I.tuple hq
    obtain ⟨u, hu, ru⟩ := rv.get hx
    have hel : e < s.heap.objs.size := Heap.lt_size he
    have hil : it < s.heap.objs.size := by obtain ⟨_, q, _⟩ := hit; exact Heap.lt_size q
    have hu' : its.toArray[i]? = some u := by simpa using hu
    have hlt : i < its.toArray.size := (Array.getElem?_eq_some_iff.mp hu').1
    have DD := Draws.tuple (prog := X.prog) (w := X.w) (A := X.A.in1) (I.ok.hd hc) it a hai its.toArray
    refine wpAny_pyNext_enum_itemD DD he ⟨hit, p⟩ hlt hne (by simp [hne, Ne.symm hae]) fun y h' tk hy ho hst hT hsz hk => ?_
    rw [hu'] at hy
    cases hy
    refine ⟨_, rfl, wpAny_letOwnedTupleGo_enum (s := { s with heap := h', toks := tk + 1 }) ho fun h'' he' sb => ?_⟩
    have hT2 : h''.get? s.heap.objs.size = some { cls := .type "tuple", data := .seq #[.int i tk, u] } := (sb.2 _ (Nat.ne_of_gt hel)).trans hT
    have new : ObjOk X.prog X.w (upd H s.heap.objs.size (.tup [.int (i : Nat), x])) h'' s.heap.objs.size (.tup [.int (i : Nat), x]) :=
      ⟨by show 2 ≤ sizeLine; decide, [.int i tk, u], .cons ⟨_, rfl⟩ (.cons ru .nil), ⟨_, hT2, rfl, _, rfl⟩⟩
    have I1 : Inv X pins σ (upd H s.heap.objs.size (.tup [.int (i : Nat), x])) { s with heap := h'', toks := tk + 1 } :=
      I.turnedNew (ch := [e, it]) (fun b ob hb q => (sb.2 b (fun z => hb (by simp [z]))).trans (hk b ob (fun z => hb (by simp [z])) (fun z => hb (by simp [z])) q)) hf (Nat.le_refl _) new
    refine ⟨.ref s.heap.objs.size, _, I1, rfl, ⟨_, x, rfl, I.hok.fresh (Nat.le_refl _), rfl, fun ys hy => by rw [I.tuple_inj hy hq]; exact hx⟩, ⟨⟨u, ?_⟩, hst.1.at fun o q => (sb.2 it (Ne.symm hne)).trans q, hne, hai, hae⟩, fun b hb => ?_⟩
    · have e1 : ((i + 1 : Nat) : Int) = (i : Int) + 1 := by omega
      rw [e1]; exact he'
    · have hb' : b < s.heap.objs.size := by
        have e' : b = e ∨ b = it := by simpa using hb
        rcases e' with z | z
        · rw [z]; exact hel
        · rw [z]; exact hil
      rw [upd_ne (Nat.ne_of_lt hb')]
      exact (hf b hb).1
  done := by
    intro X hP hw hK hc i pins s σ H E I hf st hg
    subst hP hw hK
    obtain ⟨⟨old, he⟩, hit, hne, hai, hae⟩ := st
    obtain ⟨xs, hq, hx⟩ := hg
    obtain ⟨its, rv, p, hz⟩ := I.tuple hq
    obtain ⟨f0, f1, f2, f3, f4, f5⟩ := hf it (by simp)
    have hl : i = its.toArray.size := by rw [List.size_toArray, ← rv.length, hx]
    have DD := Draws.tuple (prog := X.prog) (w := X.w) (A := X.A.in1) (I.ok.hd hc) it a hai its.toArray
    rw [hl] at hit
    exact wpAny_pyNext_enum_endD DD he ⟨hit, p⟩ fun h' eb => ⟨rfl, I.turned (t' := s.toks) (fun b o hb q => eb b o hb q) f0 f1 f3 f4 f5⟩
  self := fun A i s Q E st h => let ⟨⟨_, he⟩, _⟩ := st; wpAny_pyIter_enum he h
/-- enumerate(..) of a list or a tuple -/
def iEnumA (K : PySem.W.Frag) (ta : TA) : TI := fun σ H R => ta σ H fun vs H1 => ∃ a xs, vs = [.ref a] ∧ ((SqL K H1 a xs ∧ R (Ite K a) H1) ∨ (SqT K H1 a xs ∧ R (IteT K a) H1))
theorem pi_enumA {X : Cx} {e : Expr} {ta : TA} {p pos tpos : Pos} {elts : List Expr} {kk : Nat} (hg : Gl X "enumerate") (hm : X.mg "enumerate" = none) (ha : PA X [e] ta) (hs : starEach [e] X.env = [(false, eval e X.env)] := by rfl) :
    PI X (.Tuple elts kk tpos) (.Call (.Name "enumerate" p) [e] [] pos) (iEnumA X.K ta) := by
  refine ⟨fun pins s σ H R I h => ?_⟩
  refine Call_ (ld_blt I hg hm boot_enumerate (PyProof.Rows.callWith_type1 (thn (ha.run pos pins s σ H _ I h) fun us s1 ⟨vs, H1, I1, r1, q1⟩ => ?_) hs rfl))
  obtain ⟨a, xs, ex, hq⟩ := q1
  subst ex
  cases r1 with
  | cons r rr =>
    cases rr
    cases r
    have old : ∀ b, b ∈ [s1.heap.objs.size + 1, s1.heap.objs.size] → FpOk X pins H1 b := fun b hb => by
      have e' : b = s1.heap.objs.size + 1 ∨ b = s1.heap.objs.size := by simpa using hb
      have hle : s1.heap.objs.size ≤ b := by omega
      exact I1.fpOk hle (I1.hok.fresh hle)
    rcases hq with ⟨hq, q⟩ | ⟨hq, q⟩
    · obtain ⟨its, rv, p', hz⟩ := I1.list hq
      refine call_enumerate_list p'.isList fun h' he hit hsz hk => wpAny_pyIter_enum he ?_
      have I2 : Inv X pins σ H1 { s1 with heap := h' } := I1.kept (t' := s1.toks) hk
      exact ⟨s1.heap.objs.size + 1, [s1.heap.objs.size + 1, s1.heap.objs.size], _, _, H1, rfl, I2, turn_enum a (s1.heap.objs.size + 1) s1.heap.objs.size, ⟨⟨.none, he⟩, hit, Nat.succ_ne_self _⟩, old, q⟩
    · obtain ⟨its, rv, p', hz⟩ := I1.tuple hq
      have hlt := p'.lt
      refine mp_call_enumT (show s1.heap.IsTuple a its.toArray from p') fun h' he hit hsz hk => wpAny_pyIter_enum he ?_
      have I2 : Inv X pins σ H1 { s1 with heap := h' } := I1.kept (t' := s1.toks) hk
      exact ⟨s1.heap.objs.size + 1, [s1.heap.objs.size + 1, s1.heap.objs.size], _, _, H1, rfl, I2, turn_enumT a (s1.heap.objs.size + 1) s1.heap.objs.size its.toArray, ⟨⟨.none, he⟩, hit, Nat.succ_ne_self _, Nat.ne_of_lt hlt, Nat.ne_of_lt (Nat.lt_succ_of_lt hlt)⟩, old, q⟩
/-! ### sources by arguments -/
section
variable {g : G} {W : WX} {X : Cx}
def enumD : Nat → List D → List D
  | _, [] => []
  | n, d :: ds => .tup [.int (n : Nat), d] :: enumD (n + 1) ds
theorem enumD_get : ∀ (ds : List D) (n i : Nat), (enumD n ds)[i]? = ds[i]?.map fun d => D.tup [.int ((n + i : Nat) : Int), d]
  | [], n, i => by simp [enumD]
  | d :: ds, n, 0 => by simp [enumD]
  | d :: ds, n, i + 1 => by
    rw [enumD, List.getElem?_cons_succ, enumD_get ds (n + 1) i, List.getElem?_cons_succ]
    have : n + 1 + i = n + (i + 1) := by omega
    rw [this]
theorem enumD_len : ∀ (ds : List D) (n : Nat), (enumD n ds).length = ds.length
  | [], _ => rfl
  | d :: ds, n => by rw [enumD, List.length_cons, enumD_len ds, List.length_cons]
def seqD : D → Option (List D)
  | .lst ds => some ds
  | .tup ds => some ds
  | _ => none
def mEnum (as : Ex (List D)) : Ex (List D) := fun ρ μ => (as ρ μ).bind fun xs μ1 => match xs with
  | [x] => opt ((seqD x).map (enumD 0)) μ1
  | _ => .er
theorem itOk_enumL (hK : X.K = g.K) {ds : List D} {vs : List V} {a : Addr} {ι : List Addr} {B : Addr → Prop} {H : Hp} (h : H a = some (.lst vs)) (nb : ¬ B a) (r : Reps g B ι H ds vs) : ItOk g (Ite X.K a) (enumD 0 ds) ι B H := by
  intro ι' B' μ' H' x k
  obtain ⟨q, nb'⟩ := x.keep h (fun _ z => by cases z) nb
  have r' := r.step x
  have sq : SqL X.K H' a vs := .of q
  refine ⟨fun i d hd => ?_, ⟨vs, sq, by rw [enumD_len, r.as.len]; exact Nat.le_refl _⟩⟩
  rw [enumD_get] at hd
  cases hdd : ds[i]? with
  | none => rw [hdd] at hd; cases hd
  | some d0 =>
    rw [hdd] at hd
    cases hd
    obtain ⟨v, hv, rv⟩ := r'.get hdd
    refine ⟨⟨vs, v, sq, hv⟩, fun y H'' hy => ?_⟩
    obtain ⟨T, y', e1, hT, e2, hy⟩ := hy
    have := hy vs sq
    rw [hv] at this
    cases this
    subst e1 e2
    refine ⟨Ext.new k.dom hT, k.new hT, ?_⟩
    have rs := rv.step ((Ext.new (o := HO.tup [.int (i : Nat), v]) k.dom hT).two k.inB)
    simp only [Rep, Reps]
    exact ⟨T, _, rfl, .of upd_same, _, _, rfl, by rw [Nat.zero_add], _, _, rfl, rs, rfl⟩
theorem itOk_enumT (hK : X.K = g.K) {ds : List D} {vs : List V} {a : Addr} {ι : List Addr} {B : Addr → Prop} {H : Hp} (h : SqT g.K H a vs) (r : Reps g B ι H ds vs) : ItOk g (IteT X.K a) (enumD 0 ds) ι B H := by
  intro ι' B' μ' H' x k
  have r' := r.step x
  have sq : SqT X.K H' a vs := by rw [hK]; exact x.tup h
  refine ⟨fun i d hd => ?_, ⟨vs, sq, by rw [enumD_len, r.as.len]⟩⟩
  rw [enumD_get] at hd
  cases hdd : ds[i]? with
  | none => rw [hdd] at hd; cases hd
  | some d0 =>
    rw [hdd] at hd
    cases hd
    obtain ⟨v, hv, rv⟩ := r'.get hdd
    refine ⟨⟨vs, v, sq, hv⟩, fun y H'' hy => ?_⟩
    obtain ⟨T, y', e1, hT, e2, hy⟩ := hy
    have := hy vs sq
    rw [hv] at this
    cases this
    subst e1 e2
    refine ⟨Ext.new k.dom hT, k.new hT, ?_⟩
    have rs := rv.step ((Ext.new (o := HO.tup [.int (i : Nat), v]) k.dom hT).two k.inB)
    simp only [Rep, Reps]
    exact ⟨T, _, rfl, .of upd_same, _, _, rfl, by rw [Nat.zero_add], _, _, rfl, rs, rfl⟩
theorem i_enum (hK : X.K = g.K) {a : Expr} {ms : Ex (List D)} {elts : List Expr} {kk : Nat} {tpos p pos : Pos} (hg : Gl X "enumerate") (hm : X.mg "enumerate" = none) (ha : PA X [a] (sD g W ms)) (hs : starEach [a] X.env = [(false, eval a X.env)] := by rfl) :
    PI X (.Tuple elts kk tpos) (.Call (.Name "enumerate" p) [a] [] pos) (sI g W (mEnum ms)) := imI (pi_enumA hg hm ha hs) fun σ H R q => by
  obtain ⟨e, ι, B, O, ρ, μ, b, p⟩ := q
  refine ⟨e, ι, B, O, ρ, μ, b, ?_⟩
  unfold mEnum at p
  cases hms : ms ρ μ with
  | ok xs μ' =>
    rw [hms] at p
    intro vs ι' B' H' x b' r
    match xs, r, p with
    | [], _, p => exact p.elim
    | _ :: _ :: _, _, p => exact p.elim
    | [.lst ds], r, p =>
      simp only [Reps, Rep] at r
      obtain ⟨v, r0, e1, ⟨a, vs', e2, h1, nb, h2⟩, e3⟩ := r
      subst e3 e2
      exact ⟨a, vs', e1, .inl ⟨.of h1, p _ ι' B' H' x b' (itOk_enumL hK h1 nb h2)⟩⟩
    | [.tup ds], r, p =>
      simp only [Reps, Rep] at r
      obtain ⟨v, r0, e1, ⟨a, vs', e2, h1, h2⟩, e3⟩ := r
      subst e3 e2
      exact ⟨a, vs', e1, .inr ⟨by rw [hK]; exact h1, p _ ι' B' H' x b' (itOk_enumT hK h1 h2)⟩⟩
    | [.non], _, p => exact p.elim
    | [.bl _], _, p => exact p.elim
    | [.int _], _, p => exact p.elim
    | [.str _], _, p => exact p.elim
    | [.scr _], _, p => exact p.elim
    | [.dct _ _], _, p => exact p.elim
    | [.loc _], _, p => exact p.elim
    | [.fn _], _, p => exact p.elim
    | [.clo _ _], _, p => exact p.elim
  | ex d μ' => rw [hms] at p; exact p
  | er => rw [hms] at p; exact p
end
end MP

set_option Elab.async false
set_option linter.all false
set_option maxRecDepth 100000
set_option maxHeartbeats 4000000
/-! range, zip, texts walked; comprehensions as expressions and statements -/
namespace MP
open PySem PySem.Spec PyProof.Rows L2
section
variable {g : G} {W : WX} {X : Cx} {tg : Expr}
def rngD (lo : Int) : Nat → List D
  | 0 => []
  | n + 1 => .int lo :: rngD (lo + 1) n
theorem rngD_len : ∀ (n : Nat) (lo : Int), (rngD lo n).length = n
  | 0, _ => rfl
  | n + 1, lo => by rw [rngD, List.length_cons, rngD_len n]
theorem rngD_get : ∀ (n : Nat) (lo : Int) (i : Nat), (rngD lo n)[i]? = if i < n then some (.int (lo + i)) else none
  | 0, lo, i => by simp [rngD]
  | n + 1, lo, 0 => by simp [rngD]
  | n + 1, lo, i + 1 => by
    rw [rngD, List.getElem?_cons_succ, rngD_get n (lo + 1) i]
    have : lo + 1 + (i : Int) = lo + ((i + 1 : Nat) : Int) := by omega
    rw [this]
    by_cases h : i < n
    · rw [if_pos h, if_pos (by omega)]
    · rw [if_neg h, if_neg (by omega)]
def smallI (i : Int) : Bool := decide (-(2 ^ 40) ≤ i) && decide (i ≤ 2 ^ 40)
theorem smallI_of {i : Int} (h : smallI i = true) : -(2 ^ 62) ≤ i ∧ i < 2 ^ 62 := by
  unfold smallI at h
  simp only [Bool.and_eq_true, decide_eq_true_eq] at h
  omega
def mRange1 (as : Ex (List D)) : Ex (List D) := fun ρ μ => (as ρ μ).bind fun xs μ1 => match xs with
  | [.int n] => if smallI n = true then .ok (rngD 0 n.toNat) μ1 else .er
  | _ => .er
def mRange2 (as : Ex (List D)) : Ex (List D) := fun ρ μ => (as ρ μ).bind fun xs μ1 => match xs with
  | [.int a, .int b] => if (smallI a && smallI b) = true then .ok (rngD a (b - a).toNat) μ1 else .er
  | _ => .er
theorem itOk_rng {lo : Int} {n : Nat} {ι : List Addr} {B : Addr → Prop} {H : Hp} : ItOk g (Itr lo n) (rngD lo n) ι B H := by
  intro ι' B' μ' H' x k
  refine ⟨fun i d hd => ?_, show n ≤ _ by rw [rngD_len]; exact Nat.le_refl _⟩
  rw [rngD_get] at hd
  split at hd
  · rename_i hlt
    cases hd
    refine ⟨hlt, fun y H'' hy => ?_⟩
    obtain ⟨e1, e2⟩ := hy
    subst e1 e2
    exact ⟨.refl _ _ _, k, by simp [Rep]⟩
  · cases hd
theorem i_range1 {a : Expr} {ms : Ex (List D)} {p pos : Pos} (hg : Gl X "range") (hm : X.mg "range" = none) (ha : PA X [a] (sD g W ms)) (hs : starEach [a] X.env = [(false, eval a X.env)] := by rfl) :
    PI X tg (.Call (.Name "range" p) [a] [] pos) (sI g W (mRange1 ms)) := imI (pi_range1 hg hm ha hs) fun σ H R q => by
  obtain ⟨e, ι, B, O, ρ, μ, b, p⟩ := q
  refine ⟨e, ι, B, O, ρ, μ, b, ?_⟩
  unfold mRange1 at p
  cases hms : ms ρ μ with
  | ok xs μ' =>
    rw [hms] at p
    intro vs ι' B' H' x b' r
    simp only [Rs.bind] at p
    split at p
    · rename_i n
      split at p
      · rename_i hn
        simp only [Reps, Rep] at r
        obtain ⟨v, r0, e1, e2, e3⟩ := r
        subst e1 e2 e3
        exact ⟨n, rfl, (smallI_of hn).1, (smallI_of hn).2, p _ ι' B' H' x b' itOk_rng⟩
      · exact p.elim
    · exact p.elim
  | ex d μ' => rw [hms] at p; exact p
  | er => rw [hms] at p; exact p
theorem i_range2 {a a2 : Expr} {ms : Ex (List D)} {p pos : Pos} (hg : Gl X "range") (hm : X.mg "range" = none) (ha : PA X [a, a2] (sD g W ms)) (hs : starEach [a, a2] X.env = [(false, eval a X.env), (false, eval a2 X.env)] := by rfl) (hs2 : starEach [a2] X.env = [(false, eval a2 X.env)] := by rfl) :
    PI X tg (.Call (.Name "range" p) [a, a2] [] pos) (sI g W (mRange2 ms)) := imI (pi_range2 hg hm ha hs hs2) fun σ H R q => by
  obtain ⟨e, ι, B, O, ρ, μ, b, p⟩ := q
  refine ⟨e, ι, B, O, ρ, μ, b, ?_⟩
  unfold mRange2 at p
  cases hms : ms ρ μ with
  | ok xs μ' =>
    rw [hms] at p
    intro vs ι' B' H' x b' r
    simp only [Rs.bind] at p
    split at p
    · rename_i n m
      split at p
      · rename_i hn
        rw [Bool.and_eq_true] at hn
        simp only [Reps, Rep] at r
        obtain ⟨v, r0, e1, e2, v2, r2, e3, e4, e5⟩ := r
        subst e1 e2 e3 e4 e5
        exact ⟨n, m, rfl, ⟨(smallI_of hn.1).1, (smallI_of hn.1).2, (smallI_of hn.2).1, (smallI_of hn.2).2⟩, p _ ι' B' H' x b' itOk_rng⟩
      · exact p.elim
    · exact p.elim
  | ex d μ' => rw [hms] at p; exact p
  | er => rw [hms] at p; exact p
end
end MP

set_option Elab.async false
set_option linter.all false
set_option maxRecDepth 100000
set_option maxHeartbeats 4000000
/-! operators on data -/
namespace MP
open PySem PySem.Spec PyProof.Rows L2
section
variable {g : G} {ι : List Addr} {B : Addr → Prop} {μ : Sto} {H : Hp} {X : Cx}
theorem RepT.lst {ds : List D} {v : V} (h : RepT g B ι H (.lst ds) v) : ∃ a vs, v = .ref a ∧ H a = some (.lst vs) ∧ Reps g B ι H ds vs := by
  rcases h with h | ⟨ds', a, vs, e1, e2, h1, h2, _⟩
  · simp only [Rep] at h
    obtain ⟨a, vs, e, h1, _, h2⟩ := h
    exact ⟨a, vs, e, h1, h2⟩
  · cases e1
    exact ⟨a, vs, e2, h1, h2⟩
theorem RepT.val {d : D} {v : V} (h : RepT g B ι H d v) (n : ∀ ds, d ≠ .lst ds) : Rep g B ι H d v := by
  rcases h with h | ⟨ds', a, vs, e1, e2, h1, h2, _⟩
  · exact h
  · exact absurd e1 (n _)
theorem RepT.tup {ds : List D} {v : V} (h : RepT g B ι H (.tup ds) v) : ∃ a vs, v = .ref a ∧ SqT g.K H a vs ∧ Reps g B ι H ds vs := by
  have h := h.val (fun _ z => nomatch z)
  simp only [Rep] at h
  exact h
theorem RepT.int {i : Int} {v : V} (h : RepT g B ι H (.int i) v) : v = .int i := by
  have h := h.val (fun _ z => nomatch z)
  simpa only [Rep] using h
theorem RepT.str {i : Str} {v : V} (h : RepT g B ι H (.str i) v) : v = .str i := by
  have h := h.val (fun _ z => nomatch z)
  simpa only [Rep] using h
theorem RepT.bl {i : Bool} {v : V} (h : RepT g B ι H (.bl i) v) : v = .bl i := by
  have h := h.val (fun _ z => nomatch z)
  simpa only [Rep] using h
theorem RepT.non {v : V} (h : RepT g B ι H .non v) : v = .non := by
  have h := h.val (fun _ z => nomatch z)
  simpa only [Rep] using h
theorem RepT.scr {ns : List Int} {v : V} (h : RepT g B ι H (.scr ns) v) : ∃ a, v = .ref a ∧ ScrL g.K B H a (ns.map V.int) := by
  have h := h.val (fun _ z => nomatch z)
  simpa only [Rep] using h
theorem RepT.loc (k : Sk g ι B μ H) {n : Nat} {v : V} {ds : List D} (h : RepT g B ι H (.loc n) v) (hm : μ[n]? = some (.lst ds)) : ∃ a vs, v = .ref a ∧ H a = some (.lst vs) ∧ Reps g B ι H ds vs := by
  have h := h.val (fun _ z => nomatch z)
  simp only [Rep] at h
  obtain ⟨a, h1, e⟩ := h
  obtain ⟨vs, h2, h3⟩ := k.obs n _ a hm h1
  exact ⟨a, vs, e, h2, h3⟩
/-- nothing is made -/
theorem same {Q : VK} (k : Sk g ι B μ H) {d : D} {v : V} (q : ∀ v H', Ext ι B H ι B H' → Sk g ι B μ H' → Rep g B ι H' d v → Q v H') (r : Rep g B ι H d v) : Q v H := q v H (.refl _ _ _) k r
theorem mkT {Q : VK} (k : Sk g ι B μ H) {ds : List D} {vs : List V} {p : Addr} (hp : H p = none) (q : ∀ v H', Ext ι B H ι B H' → Sk g ι B μ H' → Rep g B ι H' (.tup ds) v → Q v H') (r : Reps g B ι H ds vs) : Q (.ref p) (upd H p (.tup vs)) := by
  have x : Ext ι B H ι B (upd H p (.tup vs)) := Ext.new k.dom hp
  refine q _ _ x (k.new hp) ?_
  simp only [Rep]
  exact ⟨p, vs, rfl, .of upd_same, r.step (x.two k.inB)⟩
theorem mkL {Q : VK} (k : Sk g ι B μ H) {ds : List D} {vs : List V} {p : Addr} (hp : H p = none) (q : ∀ v H', Ext ι B H ι B H' → Sk g ι B μ H' → Rep g B ι H' (.lst ds) v → Q v H') (r : Reps g B ι H ds vs) : Q (.ref p) (upd H p (.lst vs)) := by
  have x : Ext ι B H ι B (upd H p (.lst vs)) := Ext.new k.dom hp
  refine q _ _ x (k.new hp) ?_
  simp only [Rep]
  exact ⟨p, vs, rfl, upd_same, fun b => k.dom p b hp, r.step (x.two k.inB)⟩
theorem Reps.app : ∀ {xs ys : List D} {vs us : List V}, Reps g B ι H xs vs → Reps g B ι H ys us → Reps g B ι H (xs ++ ys) (vs ++ us)
  | [], ys, vs, us, h, h2 => by
    simp only [Reps] at h
    subst h
    exact h2
  | x :: xs, ys, vs, us, h, h2 => by
    simp only [Reps] at h
    obtain ⟨v, r, e, h1, h3⟩ := h
    subst e
    simp only [List.cons_append, Reps]
    exact ⟨v, r ++ us, rfl, h1, Reps.app h3 h2⟩
theorem Reps.drop : ∀ (n : Nat) {xs : List D} {vs : List V}, Reps g B ι H xs vs → Reps g B ι H (xs.drop n) (vs.drop n)
  | 0, _, _, h => h
  | n + 1, [], _, h => by
    simp only [Reps] at h
    subst h
    simp [Reps]
  | n + 1, x :: xs, _, h => by
    simp only [Reps] at h
    obtain ⟨v, r, e, h1, h3⟩ := h
    subst e
    exact Reps.drop n h3
theorem Reps.take : ∀ (n : Nat) {xs : List D} {vs : List V}, Reps g B ι H xs vs → Reps g B ι H (xs.take n) (vs.take n)
  | 0, _, _, h => by simp [Reps]
  | n + 1, [], _, h => by
    simp only [Reps] at h
    subst h
    simp [Reps]
  | n + 1, x :: xs, _, h => by
    simp only [Reps] at h
    obtain ⟨v, r, e, h1, h3⟩ := h
    subst e
    simp only [List.take_succ_cons, Reps]
    exact ⟨v, _, rfl, h1, Reps.take n h3⟩
theorem Reps.rep {xs : List D} {vs : List V} (h : Reps g B ι H xs vs) : ∀ n : Nat, Reps g B ι H (List.replicate n xs).flatten (List.replicate n vs).flatten
  | 0 => by simp [Reps]
  | n + 1 => by
    rw [List.replicate_succ, List.replicate_succ, List.flatten_cons, List.flatten_cons]
    exact h.app (Reps.rep h n)
theorem Reps.atI {xs : List D} {vs : List V} (h : Reps g B ι H xs vs) {i : Int} {d : D} (e : L2.atI xs i = some d) : ∃ v, L2.atI vs i = some v ∧ Rep g B ι H d v := by
  unfold L2.atI at e ⊢
  rw [← h.as.len]
  cases hn : ixN xs.length i with
  | none => rw [hn] at e; cases e
  | some j =>
    rw [hn] at e
    exact h.get (i := j) e
theorem reps_ints {ns : List Int} : Reps g B ι H (ns.map D.int) (ns.map V.int) := by
  induction ns with
  | nil => simp [Reps]
  | cons n ns ih =>
    simp only [List.map_cons, Reps, Rep]
    exact ⟨_, _, rfl, rfl, ih⟩
theorem reps_strs {ns : List Str} : Reps g B ι H (ns.map D.str) (ns.map V.str) := by
  induction ns with
  | nil => simp [Reps]
  | cons n ns ih =>
    simp only [List.map_cons, Reps, Rep]
    exact ⟨_, _, rfl, rfl, ih⟩

/-! + -/
def dAdd : Sto → D → D → Option D
  | _, .int i, .int j => some (.int (i + j))
  | _, .str a, .str b => if a.length + b.length ≤ big then some (.str (a ++ b)) else none
  | _, .lst a, .lst b => if a.length + b.length ≤ big then some (.lst (a ++ b)) else none
  | _, .tup a, .tup b => if a.length + b.length ≤ big then some (.tup (a ++ b)) else none
  | _, _, _ => none
theorem big_le {n : Nat} (h : n ≤ big) : n ≤ sizeLine := Nat.le_of_lt (big_line h)
def rAdd (K : PySem.W.Frag) : R2 := fun x y H Q => (∃ i j, x = .int i ∧ y = .int j ∧ Q (.int (i + j)) H) ∨ (∃ i j, x = .str i ∧ y = .str j ∧ i.length + j.length ≤ sizeLine ∧ Q (.str (i ++ j)) H) ∨ rCat x y H Q ∨ rCatA K x y H Q
theorem o_add : OpR X (binaryOp .Add) (rAdd X.K) := fun pins s σ H x y v u Q I rx ry h => by
  rcases h with ⟨i, j, e1, e2, q⟩ | h | h | h
  · exact op_add pins s σ H x y v u Q I rx ry ⟨i, j, e1, e2, q⟩
  · exact op_add_str pins s σ H x y v u Q I rx ry h
  · exact op_cat pins s σ H x y v u Q I rx ry h
  · exact op_catA pins s σ H x y v u Q I rx ry h
theorem v_add : VOp g (rAdd g.K) dAdd := fun ι B μ H x y vx vy d Q k rx ry hd q => by
  unfold dAdd at hd
  split at hd
  · cases hd
    exact .inl ⟨_, _, rx.int, ry.int, same k q (by simp [Rep])⟩
  · split at hd
    · rename_i hl
      cases hd
      exact .inr (.inl ⟨_, _, rx.str, ry.str, big_le hl, same k q (by simp [Rep])⟩)
    · cases hd
  · split at hd
    · rename_i hl
      cases hd
      obtain ⟨a, vs, e1, h1, r1⟩ := rx.lst
      obtain ⟨b, us, e2, h2, r2⟩ := ry.lst
      exact .inr (.inr (.inl ⟨a, b, vs, us, e1, e2, h1, h2, by rw [← r1.as.len, ← r2.as.len]; exact big_le hl, fun p hp => mkL k hp q (r1.app r2)⟩))
    · cases hd
  · split at hd
    · rename_i hl
      cases hd
      obtain ⟨a, vs, e1, h1, r1⟩ := rx.tup
      obtain ⟨b, us, e2, h2, r2⟩ := ry.tup
      refine .inr (.inr (.inr ⟨a, b, vs, us, e1, e2, h1, h2, by rw [← r1.as.len, ← r2.as.len]; exact big_le hl, fun z => ?_, fun _ z => ?_, fun _ _ p hp => mkT k hp q (r1.app r2)⟩))
      · subst z
        refine same k q ?_
        have z2 := r1.as.len
        simp only [List.length_nil, List.length_eq_zero_iff] at z2
        subst z2
        simp only [Rep]
        exact ⟨b, us, rfl, h2, r2⟩
      · subst z
        refine same k q ?_
        have z2 := r2.as.len
        simp only [List.length_nil, List.length_eq_zero_iff] at z2
        subst z2
        simp only [Rep]
        exact ⟨a, vs, rfl, h1, by rw [List.append_nil]; exact r1⟩
    · cases hd
  · cases hd
/-! * -/
def dSub : Sto → D → D → Option D
  | _, .int i, .int j => some (.int (i - j))
  | _, _, _ => none
theorem v_sub : VOp g (rI0 fun i j => .int (i - j)) dSub := fun ι B μ H x y vx vy d Q k rx ry hd q => by
  unfold dSub at hd
  split at hd
  · cases hd
    exact ⟨_, _, rx.int, ry.int, same k q (by simp [Rep])⟩
  · cases hd
def small64 (i : Int) : Bool := decide (-2 ^ 64 < i) && decide (i < 2 ^ 64)
def repS (a : Str) (k : Nat) : Str := ⟨(List.replicate k a.cps.toList).flatten.toArray⟩
def dMul : Sto → D → D → Option D
  | _, .int i, .int j => if (small64 i || small64 j) = true then some (.int (i * j)) else none
  | _, .tup a, .int k => if 1 ≤ a.length ∧ 2 ≤ k ∧ k ≤ 1000 ∧ a.length ≤ 1000 then some (.tup (List.replicate k.toNat a).flatten) else none
  | _, .str a, .int k => if 1 ≤ a.length ∧ 2 ≤ k ∧ k ≤ 1000 ∧ a.length ≤ 1000 then some (.str (repS a k.toNat)) else none
  | _, _, _ => none

theorem foldl_repS (a : List Nat) : ∀ (k : Nat) (acc : List Nat), List.foldl (fun x1 x2 => x1 ++ x2) acc.toArray (List.replicate k a.toArray) = (acc ++ (List.replicate k a).flatten).toArray
  | 0, acc => by simp
  | k + 1, acc => by
    have e : acc.toArray ++ a.toArray = (acc ++ a).toArray := by simp
    rw [List.replicate_succ, List.foldl_cons, e, foldl_repS a k, List.replicate_succ, List.flatten_cons, List.append_assoc]
theorem repS_eq (x : Str) (k : Nat) : (⟨(List.replicate k x.cps).foldl (· ++ ·) #[]⟩ : Str) = repS x k := by
  have := foldl_repS x.cps.toList k []
  rw [List.nil_append] at this
  unfold repS
  exact congrArg Str.mk this
theorem repS_len (x : Str) (k : Nat) : (repS x k).length = k * x.length := by
  show (List.replicate k x.cps.toList).flatten.toArray.size = k * x.cps.size
  rw [List.size_toArray, PyProof.Rows.lm_len_rep_flat, Array.length_toList]
def rMul (K : PySem.W.Frag) : R2 := fun x y H Q => rI CMul (fun i j => .int (i * j)) x y H Q ∨ rRepT K x y H Q ∨ ∃ a k, x = .str a ∧ y = .int k ∧ (1 ≤ a.length ∧ 2 ≤ k ∧ k ≤ 1000 ∧ a.length ≤ 1000) ∧ Q (.str (repS a k.toNat)) H
theorem o_mul : OpR X (binaryOp .Mult) (rMul X.K) := fun pins s σ H x y v u Q I rx ry h => by
  rcases h with h | h | ⟨a, k, rfl, rfl, ⟨h0, h1, h2, h3⟩, q⟩
  · exact op_mul pins s σ H x y v u Q I rx ry h
  · exact op_repT pins s σ H x y v u Q I rx ry h
  · obtain ⟨t, rfl⟩ := rx
    obtain ⟨t', rfl⟩ := ry
    have hm : a.length * k.toNat ≤ 1000000 := by
      have a1 : a.length * k.toNat ≤ 1000 * 1000 := Nat.mul_le_mul h3 (by omega)
      omega
    refine PySem.P.mul_str (by rw [decide_eq_false (by omega), decide_eq_false (by omega)]; rfl) (fun _ _ => ?_) (fun _ _ => ?_) ?_
    · have h4 : (1000 : Int) ≤ (2 ^ 63 - 1) / k := by
        rw [Int.le_ediv_iff_mul_le (by omega)]
        omega
      omega
    · unfold Builtin.Str.tooLong
      rw [sizeLine_eq]
      exact decide_eq_false (by omega)
    · rw [if_neg (by omega), if_neg (by
        intro z
        rw [Bool.or_eq_true, beq_iff_eq, beq_iff_eq] at z
        omega)]
      rw [repS_eq]
      exact ⟨by rw [repS_len, sizeLine_eq, Nat.mul_comm]; omega, ⟨.str _, H, I.tok _, ⟨_, rfl⟩, q⟩⟩
theorem v_mul : VOp g (rMul g.K) dMul := fun ι B μ H x y vx vy d Q k rx ry hd q => by
  unfold dMul at hd
  split at hd
  · split at hd
    · rename_i hs
      cases hd
      refine .inl ⟨_, _, rx.int, ry.int, ?_, same k q (by simp [Rep])⟩
      unfold small64 at hs
      simp only [Bool.or_eq_true, Bool.and_eq_true, decide_eq_true_eq] at hs
      exact hs
    · cases hd
  · split at hd
    · rename_i hs
      cases hd
      obtain ⟨a, vs, e1, h1, r1⟩ := rx.tup
      have hl := r1.as.len
      exact .inr (.inl ⟨a, _, vs, e1, ry.int, h1, fun z => by rw [z] at hl; simp at hl; rw [hl] at hs; simp at hs, hs.2.1, hs.2.2.1, by rw [← hl]; exact hs.2.2.2, fun p hp => mkT k hp q (r1.rep _)⟩)
    · cases hd
  · split at hd
    · rename_i hs
      cases hd
      exact .inr (.inr ⟨_, _, rx.str, ry.int, hs, same k q (by simp [Rep])⟩)
    · cases hd
  · cases hd
def dMod : Sto → D → D → Option D
  | _, .int i, .int j => if 0 < j then some (.int (i % j)) else none
  | _, _, _ => none
theorem v_mod : VOp g (rI (fun _ j => 0 < j) fun i j => .int (i % j)) dMod := fun ι B μ H x y vx vy d Q k rx ry hd q => by
  unfold dMod at hd
  split at hd
  · split at hd
    · rename_i hs
      cases hd
      exact ⟨_, _, rx.int, ry.int, hs, same k q (by simp [Rep])⟩
    · cases hd
  · cases hd
def dDiv : Sto → D → D → Option D
  | _, .int i, .int j => if 0 < j ∧ j < 1073741824 then some (.int (i / j)) else none
  | _, _, _ => none
theorem v_div : VOp g (rI CDiv fun i j => .int (i / j)) dDiv := fun ι B μ H x y vx vy d Q k rx ry hd q => by
  unfold dDiv at hd
  split at hd
  · split at hd
    · rename_i hs
      cases hd
      exact ⟨_, _, rx.int, ry.int, hs, same k q (by simp [Rep])⟩
    · cases hd
  · cases hd
def dPow : Sto → D → D → Option D
  | _, .int i, .int j => if 0 ≤ j ∧ j ≤ 1000000 ∧ i.natAbs < 2 ^ 64 then some (.int (i ^ j.toNat)) else none
  | _, _, _ => none
theorem v_pow : VOp g (rI CPow fun i j => .int (i ^ j.toNat)) dPow := fun ι B μ H x y vx vy d Q k rx ry hd q => by
  unfold dPow at hd
  split at hd
  · split at hd
    · rename_i hs
      cases hd
      exact ⟨_, _, rx.int, ry.int, hs, same k q (by simp [Rep])⟩
    · cases hd
  · cases hd
def dNeg : Sto → D → Option D
  | _, .int i => some (.int (-i))
  | _, _ => none
theorem v_neg : VUn g (rU fun i => .int (-i)) dNeg := fun ι B μ H x vx d Q k rx hd q => by
  unfold dNeg at hd
  split at hd
  · cases hd
    exact ⟨_, rx.int, same k q (by simp [Rep])⟩
  · cases hd

/-! order -/
def ltS (a b : Str) : Bool := decide (a.cps.toList < b.cps.toList)
/-- tuples of texts in order -/
def lexL : List Str → List Str → Bool
  | [], [] => false
  | [], _ :: _ => true
  | _ :: _, [] => false
  | a :: xs, b :: ys => if a = b then lexL xs ys else ltS a b
/-- texts alone -/
def strsD : List D → Option (List Str)
  | [] => some []
  | .str a :: ds => (strsD ds).map (a :: ·)
  | _ => none
theorem strsD_eq : ∀ {ds : List D} {xs : List Str}, strsD ds = some xs → ds = xs.map D.str
  | [], xs, h => by cases h; rfl
  | d :: ds, xs, h => by
    cases d with
    | str a =>
      rw [strsD] at h
      cases hs : strsD ds with
      | none => rw [hs] at h; cases h
      | some ys =>
        rw [hs] at h
        cases h
        rw [strsD_eq hs]
        rfl
    | _ => cases h
theorem strsD_map : ∀ xs : List Str, strsD (xs.map D.str) = some xs
  | [] => rfl
  | x :: xs => by rw [List.map_cons, strsD, strsD_map xs]; rfl
theorem reps_strs_eq : ∀ {xs : List Str} {vs : List V}, Reps g B ι H (xs.map D.str) vs → vs = xs.map V.str
  | [], vs, h => by simpa [Reps] using h
  | x :: xs, vs, h => by
    simp only [List.map_cons, Reps, Rep] at h
    obtain ⟨v, r, e, h1, h2⟩ := h
    rw [e, h1, reps_strs_eq h2]
    rfl
def dLt : Sto → D → D → Option D
  | _, .int i, .int j => some (.bl (decide (i < j)))
  | _, .str i, .str j => some (.bl (ltS i j))
  | _, .tup i, .tup j => match strsD i, strsD j with
    | some a, some b => some (.bl (lexL a b))
    | _, _ => none
  | _, _, _ => none
def dLe : Sto → D → D → Option D
  | _, .int i, .int j => some (.bl (decide (i ≤ j)))
  | _, .str i, .str j => some (.bl (!ltS j i))
  | _, _, _ => none
def dGt : Sto → D → D → Option D
  | _, .int i, .int j => some (.bl (decide (j < i)))
  | _, .str i, .str j => some (.bl (ltS j i))
  | _, _, _ => none
def dGe : Sto → D → D → Option D
  | _, .int i, .int j => some (.bl (decide (j ≤ i)))
  | _, .str i, .str j => some (.bl (!ltS i j))
  | _, _, _ => none
def rLe : R2 := fun x y H Q => rI0 (fun i j => .bl (decide (i ≤ j))) x y H Q ∨ ∃ i j, x = .str i ∧ y = .str j ∧ Q (.bl (!decide (j.cps.toList < i.cps.toList))) H
theorem o_le : OpR X (compareOp .LtE) rLe := op_le.or op_le_str
theorem v_le : VOp g rLe dLe := fun ι B μ H x y vx vy d Q k rx ry hd q => by
  unfold dLe at hd
  split at hd
  · cases hd
    exact .inl ⟨_, _, rx.int, ry.int, same k q (by simp [Rep])⟩
  · cases hd
    exact .inr ⟨_, _, rx.str, ry.str, same k q (by simp [Rep, ltS])⟩
  · cases hd
def rGt : R2 := fun x y H Q => rI0 (fun i j => .bl (decide (j < i))) x y H Q ∨ ∃ i j, x = .str i ∧ y = .str j ∧ Q (.bl (decide (j.cps.toList < i.cps.toList))) H
theorem o_gt : OpR X (compareOp .Gt) rGt := op_gt.or op_gt_str
theorem v_gt : VOp g rGt dGt := fun ι B μ H x y vx vy d Q k rx ry hd q => by
  unfold dGt at hd
  split at hd
  · cases hd
    exact .inl ⟨_, _, rx.int, ry.int, same k q (by simp [Rep])⟩
  · cases hd
    exact .inr ⟨_, _, rx.str, ry.str, same k q (by simp [Rep, ltS])⟩
  · cases hd
def rGe : R2 := fun x y H Q => rI0 (fun i j => .bl (decide (j ≤ i))) x y H Q ∨ ∃ i j, x = .str i ∧ y = .str j ∧ Q (.bl (!decide (i.cps.toList < j.cps.toList))) H
theorem o_ge : OpR X (compareOp .GtE) rGe := op_ge.or op_ge_str
theorem v_ge : VOp g rGe dGe := fun ι B μ H x y vx vy d Q k rx ry hd q => by
  unfold dGe at hd
  split at hd
  · cases hd
    exact .inl ⟨_, _, rx.int, ry.int, same k q (by simp [Rep])⟩
  · cases hd
    exact .inr ⟨_, _, rx.str, ry.str, same k q (by simp [Rep, ltS])⟩
  · cases hd
theorem lexAt_shift (e r : Nat → Bool) (z : Bool) : ∀ (k i : Nat), Ob.lexAt e r z (i + 1) k = Ob.lexAt (fun j => e (j + 1)) (fun j => r (j + 1)) z i k
  | 0, i => rfl
  | k + 1, i => by
    rw [Ob.lexAt_succ, Ob.lexAt_succ, lexAt_shift e r z k (i + 1)]
theorem lexAt_lex : ∀ (xs ys : List Str), Ob.lexAt (fun j => decide (xs.getD j Str.empty = ys.getD j Str.empty)) (fun j => ltS (xs.getD j Str.empty) (ys.getD j Str.empty)) (decide (xs.length < ys.length)) 0 (min xs.length ys.length) = lexL xs ys
  | [], [] => rfl
  | [], y :: ys => by simp [Ob.lexAt_zero, lexL]
  | x :: xs, [] => by simp [Ob.lexAt_zero, lexL]
  | x :: xs, y :: ys => by
    rw [List.length_cons, List.length_cons, Nat.succ_min_succ, Ob.lexAt_succ, lexAt_shift]
    have := lexAt_lex xs ys
    simp only [List.getD_cons_zero, List.getD_cons_succ, decide_eq_true_eq, Nat.add_lt_add_iff_right, lexL]
    rw [this]
def rLtT (K : PySem.W.Frag) : R2 := fun x y H Q => ∃ (a b : Addr) (ns ms : List Str), x = .ref a ∧ y = .ref b ∧ SqT K H a (ns.map V.str) ∧ SqT K H b (ms.map V.str) ∧ Q (.bl (lexL ns ms)) H
theorem o_ltT (hu : X.A.units < cLine) : OpR X (compareOp .Lt) (rLtT X.K) := by
  intro pins s σ H x y v u Q I rx ry h
  obtain ⟨a, b, ns, ms, rfl, rfl, ha, hb, q⟩ := h
  cases rx
  cases ry
  obtain ⟨its, r1, p1, _⟩ := I.tuple ha
  obtain ⟨its2, r2, p2, _⟩ := I.tuple hb
  have i1 : StrsAre its ns := Vals.strs r1
  have i2 : StrsAre its2 ms := Vals.strs r2
  have e1 : its.toArray.size = ns.length := by rw [List.size_toArray, ← r1.length, List.length_map]
  have e2 : its2.toArray.size = ms.length := by rw [List.size_toArray, ← r2.length, List.length_map]
  have at1 : ∀ {its : List Value} {ns : List Str}, Vals (ns.map V.str) its → ∀ j (h1 : j < its.toArray.size), ∃ t, its.toArray[j] = .str (ns.getD j Str.empty) t := fun {its ns} r j h1 => by
    have hl : j < ns.length := by
      rw [List.size_toArray, ← r.length, List.length_map] at h1
      exact h1
    obtain ⟨u, hu, ru⟩ := r.get (i := j) (x := V.str ns[j]) (by rw [List.getElem?_map, List.getElem?_eq_getElem hl]; rfl)
    obtain ⟨t, rfl⟩ := ru
    refine ⟨t, ?_⟩
    have h2 : its.toArray[j]? = some (Value.str ns[j] t) := by simpa using hu
    rw [Array.getElem?_eq_getElem h1] at h2
    rw [Option.some.inj h2, List.getD_eq_getElem?_getD, List.getElem?_eq_getElem hl]
    rfl
  have R := Ob.RcOp.tuples_lt (A := X.A) (s := s) (e := fun j => decide (ns.getD j Str.empty = ms.getD j Str.empty)) (r := fun j => ltS (ns.getD j Str.empty) (ms.getD j Str.empty)) p1 p2 hu (fun j h1 h2 => by
    obtain ⟨t, et⟩ := at1 r1 j h1
    obtain ⟨t', et'⟩ := at1 r2 j h2
    rw [et, et']
    have z : (ns.getD j Str.empty == ms.getD j Str.empty) = decide (ns.getD j Str.empty = ms.getD j Str.empty) := by
      by_cases q : ns.getD j Str.empty = ms.getD j Str.empty
      · rw [decide_eq_true q]; exact beq_iff_eq.mpr q
      · rw [decide_eq_false q]; exact beq_eq_false_iff_ne.mpr q
    rw [← z]
    exact SeqAt.EqAt.str_str _ _ _ _) (fun j h1 h2 _ => by
    obtain ⟨t, et⟩ := at1 r1 j h1
    obtain ⟨t', et'⟩ := at1 r2 j h2
    rw [et, et']
    exact fun _ _ _ _ h => PyProof.Rows.lt_str h)
  rw [e1, e2, lexAt_lex] at R
  have z : wpAny (model X.prog X.w) X.A (compareOp .Lt (.ref a) (.ref b)) (EP X pins σ Q) X.xe s := R X.prog X.w X.xe (EP X pins σ Q) ⟨.bl _, H, I, rfl, q⟩
  exact z
def rLt (K : PySem.W.Frag) : R2 := fun x y H Q => rI0 (fun i j => .bl (decide (i < j))) x y H Q ∨ (∃ i j, x = .str i ∧ y = .str j ∧ Q (.bl (decide (i.cps.toList < j.cps.toList))) H) ∨ rLtT K x y H Q
theorem o_lt (hu : X.A.units < cLine) : OpR X (compareOp .Lt) (rLt X.K) := op_lt.or (op_lt_str.or (o_ltT hu))
theorem v_lt : VOp g (rLt g.K) dLt := fun ι B μ H x y vx vy d Q k rx ry hd q => by
  unfold dLt at hd
  split at hd
  · cases hd
    exact .inl ⟨_, _, rx.int, ry.int, same k q (by simp [Rep])⟩
  · cases hd
    exact .inr (.inl ⟨_, _, rx.str, ry.str, same k q (by simp [Rep, ltS])⟩)
  · split at hd
    · rename_i ns ms h1 h2
      cases hd
      have e1 := strsD_eq h1
      have e2 := strsD_eq h2
      subst e1 e2
      obtain ⟨a, vs, e1, g1, r1⟩ := rx.tup
      obtain ⟨b, us, e2, g2, r2⟩ := ry.tup
      have e3 := reps_strs_eq r1
      have e4 := reps_strs_eq r2
      subst e3 e4
      exact .inr (.inr ⟨a, b, ns, ms, e1, e2, g1, g2, same k q (by simp [Rep])⟩)
    · cases hd
  · cases hd
end
end MP

set_option Elab.async false
set_option linter.all false
set_option maxRecDepth 100000
set_option maxHeartbeats 4000000
/-! ==, in, is; places; lengths; parts -/
namespace MP
open PySem PySem.Spec PyProof.Rows L2
section
variable {g : G} {ι : List Addr} {B : Addr → Prop} {μ : Sto} {H : Hp} {X : Cx}
mutual
/-- as data -/
def pyd : D → Option PyData
  | .non => some .none
  | .bl b => some (.bool b)
  | .int i => some (.int i)
  | .str x => some (.str x)
  | .tup ds => (pyds ds).map .tuple
  | .lst ds => (pyds ds).map .list
  | _ => none
def pyds : List D → Option (List PyData)
  | [] => some []
  | d :: ds => match pyd d, pyds ds with
    | some p, some ps => some (p :: ps)
    | _, _ => none
end
mutual
theorem Rep.dp : ∀ {d : D} {v : V} {p : PyData}, Rep g B ι H d v → pyd d = some p → Dp g.K H v p
  | .non, v, p, h, e => by
    simp only [Rep] at h
    cases e
    subst h
    exact .non
  | .bl b, v, p, h, e => by
    simp only [Rep] at h
    cases e
    subst h
    exact .bl b
  | .int b, v, p, h, e => by
    simp only [Rep] at h
    cases e
    subst h
    exact .int b
  | .str b, v, p, h, e => by
    simp only [Rep] at h
    cases e
    subst h
    exact .str b
  | .tup ds, v, p, h, e => by
    simp only [Rep] at h
    obtain ⟨a, vs, e1, h1, h2⟩ := h
    rw [pyd] at e
    cases hs : pyds ds with
    | none => rw [hs] at e; cases e
    | some ps =>
      rw [hs] at e
      cases e
      subst e1
      exact .tup h1 (Reps.dp h2 hs)
  | .lst ds, v, p, h, e => by
    simp only [Rep] at h
    obtain ⟨a, vs, e1, h1, _, h2⟩ := h
    rw [pyd] at e
    cases hs : pyds ds with
    | none => rw [hs] at e; cases e
    | some ps =>
      rw [hs] at e
      cases e
      subst e1
      exact .lst (.of h1) (Reps.dp h2 hs)
  | .scr _, _, _, _, e => nomatch e
  | .dct _ _, _, _, _, e => nomatch e
  | .loc _, _, _, _, e => nomatch e
  | .fn _, _, _, _, e => nomatch e
  | .clo _ _, _, _, _, e => nomatch e
theorem Reps.dp : ∀ {ds : List D} {vs : List V} {ps : List PyData}, Reps g B ι H ds vs → pyds ds = some ps → DpAll g.K H vs ps
  | [], vs, ps, h, e => by
    simp only [Reps] at h
    cases e
    subst h
    exact .nil
  | d :: ds, vs, ps, h, e => by
    simp only [Reps] at h
    obtain ⟨v, r, e1, h1, h2⟩ := h
    subst e1
    rw [pyds] at e
    cases hp : pyd d with
    | none => rw [hp] at e; cases e
    | some q =>
      cases hq : pyds ds with
      | none => rw [hp, hq] at e; cases e
      | some qs =>
        rw [hp, hq] at e
        cases e
        exact .cons (Rep.dp h1 hp) (Reps.dp h2 hq)
end
theorem RepT.dp {d : D} {v : V} {p : PyData} (h : RepT g B ι H d v) (e : pyd d = some p) : Dp g.K H v p := by
  rcases h with h | ⟨ds, a, vs, e1, e2, h1, h2, _⟩
  · exact h.dp e
  · subst e1 e2
    rw [pyd] at e
    cases hs : pyds ds with
    | none => rw [hs] at e; cases e
    | some ps =>
      rw [hs] at e
      cases e
      exact .lst (.of h1) (Reps.dp h2 hs)
/-- == of data -/
def eqD (x y : D) : Option Bool := match pyd x, pyd y with
  | some p, some q => if (SeqAt.shaped p && SeqAt.shaped q) = true then some (p.eqv q) else none
  | _, _ => none
def dEq : Sto → D → D → Option D := fun _ x y => (eqD x y).map .bl
def dNe : Sto → D → D → Option D := fun _ x y => (eqD x y).map fun b => .bl (!b)
theorem eqD_of {x y : D} {b : Bool} (h : eqD x y = some b) : ∃ p q, pyd x = some p ∧ pyd y = some q ∧ SeqAt.shaped p = true ∧ SeqAt.shaped q = true ∧ b = p.eqv q := by
  unfold eqD at h
  split at h
  · rename_i p q h1 h2
    split at h
    · rename_i hs
      rw [Bool.and_eq_true] at hs
      cases h
      exact ⟨p, q, h1, h2, hs.1, hs.2, rfl⟩
    · cases h
  · cases h
theorem v_eq : VOp g (rEqD g.K) dEq := fun ι B μ H x y vx vy d Q k rx ry hd q => by
  unfold dEq at hd
  cases he : eqD x y with
  | none => rw [he] at hd; cases hd
  | some b =>
    rw [he] at hd
    cases hd
    obtain ⟨p, p2, h1, h2, s1, s2, e⟩ := eqD_of he
    exact ⟨p, p2, rx.dp h1, ry.dp h2, s1, s2, by rw [← e]; exact same k q (by simp [Rep])⟩
theorem v_ne : VOp g (rNeD g.K) dNe := fun ι B μ H x y vx vy d Q k rx ry hd q => by
  unfold dNe at hd
  cases he : eqD x y with
  | none => rw [he] at hd; cases hd
  | some b =>
    rw [he] at hd
    cases hd
    obtain ⟨p, p2, h1, h2, s1, s2, e⟩ := eqD_of he
    exact ⟨p, p2, rx.dp h1, ry.dp h2, s1, s2, by rw [← e]; exact same k q (by simp [Rep])⟩
/-! in -/
def rInT (K : PySem.W.Frag) : R2 := fun x y H Q => ∃ d ds, Dp K H x d ∧ Dp K H y (.tuple ds) ∧ SeqAt.shaped d = true ∧ SeqAt.shaped (.tuple ds) = true ∧ Q (.bl (ds.any fun z => PyData.eqv z d)) H
def rNotInT (K : PySem.W.Frag) : R2 := fun x y H Q => ∃ d ds, Dp K H x d ∧ Dp K H y (.tuple ds) ∧ SeqAt.shaped d = true ∧ SeqAt.shaped (.tuple ds) = true ∧ Q (.bl (!ds.any fun z => PyData.eqv z d)) H
theorem o_inT (hu : X.A.units + 65 < cLine) : OpR X (compareOp .In) (rInT X.K) := by
  intro pins s σ H x y v u Q I rx ry h
  obtain ⟨d, ds, hd, he, sd, se, q⟩ := h
  obtain ⟨as, r1⟩ := Dp.reads I d x v hd rx
  obtain ⟨bs, r2⟩ := Dp.reads I (.tuple ds) y u he ry
  exact SeqAt.in_tuple_reads r2 r1 (SeqAt.canLay_of_shaped se) (SeqAt.canLay_of_shaped sd) (room_in_shaped sd hu) ⟨.bl _, H, I, rfl, q⟩
theorem o_notInT (hu : X.A.units + 65 < cLine) : OpR X (compareOp .NotIn) (rNotInT X.K) := by
  intro pins s σ H x y v u Q I rx ry h
  obtain ⟨d, ds, hd, he, sd, se, q⟩ := h
  obtain ⟨as, r1⟩ := Dp.reads I d x v hd rx
  obtain ⟨bs, r2⟩ := Dp.reads I (.tuple ds) y u he ry
  exact SeqAt.notIn_tuple_reads r2 r1 (SeqAt.canLay_of_shaped se) (SeqAt.canLay_of_shaped sd) (room_in_shaped sd hu) ⟨.bl _, H, I, rfl, q⟩
def inD (μ : Sto) : D → D → Option Bool
  | .str x, .str y => match x.cps.toList with
    | [c] => some (decide (c ∈ y.cps.toList))
    | _ => none
  | x, .tup ds => match pyd x, pyds ds with
    | some p, some ps => if (SeqAt.shaped p && SeqAt.shaped (.tuple ps)) = true then some (ps.any fun z => PyData.eqv z p) else none
    | _, _ => none
  | x, .lst ds => match pyd x, pyds ds with
    | some p, some ps => if (SeqAt.shaped p && SeqAt.shaped (.list ps)) = true then some (ps.any fun z => PyData.eqv z p) else none
    | _, _ => none
  | x, .loc n => match μ[n]? with
    | some (.lst ds) => match pyd x, pyds ds with
      | some p, some ps => if (SeqAt.shaped p && SeqAt.shaped (.list ps)) = true then some (ps.any fun z => PyData.eqv z p) else none
      | _, _ => none
    | _ => none
  | _, _ => none
def dIn : Sto → D → D → Option D := fun μ x y => (inD μ x y).map .bl
def dNotIn : Sto → D → D → Option D := fun μ x y => (inD μ x y).map fun b => .bl (!b)
def rInAny (K : PySem.W.Frag) : R2 := fun x y H Q => (∃ (c : Nat) (z : Str), x = .str ⟨#[c]⟩ ∧ y = .str z ∧ Q (.bl (decide (c ∈ z.cps.toList))) H) ∨ rInT K x y H Q ∨ rInD K x y H Q
def rNotInAny (K : PySem.W.Frag) : R2 := fun x y H Q => (∃ (c : Nat) (z : Str), x = .str ⟨#[c]⟩ ∧ y = .str z ∧ Q (.bl (!decide (c ∈ z.cps.toList))) H) ∨ rNotInT K x y H Q ∨ rNotInD K x y H Q
theorem o_in (hu : X.A.units + 65 < cLine) : OpR X (compareOp .In) (rInAny X.K) := op_in_sign.or ((o_inT hu).or (op_inD hu))
theorem o_notIn (hu : X.A.units + 65 < cLine) : OpR X (compareOp .NotIn) (rNotInAny X.K) := op_notIn_sign.or ((o_notInT hu).or (op_notInD hu))
theorem one_sign {x : Str} {c : Nat} (h : x.cps.toList = [c]) : x = ⟨#[c]⟩ := by
  cases x with
  | mk a =>
    have : a = #[c] := by
      apply Array.ext'
      exact h
    rw [this]
theorem inD_cases {x y : D} {b : Bool} (k : Sk g ι B μ H) (h : inD μ x y = some b) {vx vy : V} (rx : RepT g B ι H x vx) (ry : RepT g B ι H y vy) :
    (∃ (c : Nat) (z : Str), vx = .str ⟨#[c]⟩ ∧ vy = .str z ∧ b = decide (c ∈ z.cps.toList)) ∨
    (∃ d ds, Dp g.K H vx d ∧ Dp g.K H vy (.tuple ds) ∧ SeqAt.shaped d = true ∧ SeqAt.shaped (.tuple ds) = true ∧ b = ds.any fun z => PyData.eqv z d) ∨
    (∃ d ds, Dp g.K H vx d ∧ Dp g.K H vy (.list ds) ∧ SeqAt.shaped d = true ∧ SeqAt.shaped (.list ds) = true ∧ b = ds.any fun z => PyData.eqv z d) := by
  unfold inD at h
  split at h
  · rename_i x y
    split at h
    · rename_i c hc
      cases h
      have e := one_sign hc
      subst e
      exact .inl ⟨c, y, rx.str, ry.str, rfl⟩
    · cases h
  · rename_i ds _
    split at h
    · rename_i p ps h1 h2
      split at h
      · rename_i hs
        rw [Bool.and_eq_true] at hs
        cases h
        exact .inr (.inl ⟨p, ps, rx.dp h1, ry.dp (by rw [pyd, h2]; rfl), hs.1, hs.2, rfl⟩)
      · cases h
    · cases h
  · rename_i ds _
    split at h
    · rename_i p ps h1 h2
      split at h
      · rename_i hs
        rw [Bool.and_eq_true] at hs
        cases h
        exact .inr (.inr ⟨p, ps, rx.dp h1, ry.dp (by rw [pyd, h2]; rfl), hs.1, hs.2, rfl⟩)
      · cases h
    · cases h
  · split at h
    · rename_i ds hm
      split at h
      · rename_i p ps h1 h2
        split at h
        · rename_i hs
          rw [Bool.and_eq_true] at hs
          cases h
          obtain ⟨a, vs, e1, g1, r1⟩ := ry.loc k hm
          subst e1
          exact .inr (.inr ⟨p, ps, rx.dp h1, .lst (.of g1) (Reps.dp r1 h2), hs.1, hs.2, rfl⟩)
        · cases h
      · cases h
    · cases h
  · cases h
theorem v_in : VOp g (rInAny g.K) dIn := fun ι B μ H x y vx vy d Q k rx ry hd q => by
  unfold dIn at hd
  cases he : inD μ x y with
  | none => rw [he] at hd; cases hd
  | some b =>
    rw [he] at hd
    cases hd
    have q2 : Q (.bl b) H := same k q (by simp [Rep])
    rcases inD_cases k he rx ry with ⟨c, z, e1, e2, e⟩ | ⟨d, ds, h1, h2, h3, h4, e⟩ | ⟨d, ds, h1, h2, h3, h4, e⟩
    · exact .inl ⟨c, z, e1, e2, by rw [← e]; exact q2⟩
    · exact .inr (.inl ⟨d, ds, h1, h2, h3, h4, by rw [← e]; exact q2⟩)
    · exact .inr (.inr ⟨d, ds, h1, h2, h3, h4, by rw [← e]; exact q2⟩)
theorem v_notIn : VOp g (rNotInAny g.K) dNotIn := fun ι B μ H x y vx vy d Q k rx ry hd q => by
  unfold dNotIn at hd
  cases he : inD μ x y with
  | none => rw [he] at hd; cases hd
  | some b =>
    rw [he] at hd
    cases hd
    have q2 : Q (.bl (!b)) H := same k q (by simp [Rep])
    rcases inD_cases k he rx ry with ⟨c, z, e1, e2, e⟩ | ⟨d, ds, h1, h2, h3, h4, e⟩ | ⟨d, ds, h1, h2, h3, h4, e⟩
    · exact .inl ⟨c, z, e1, e2, by rw [← e]; exact q2⟩
    · exact .inr (.inl ⟨d, ds, h1, h2, h3, h4, by rw [← e]; exact q2⟩)
    · exact .inr (.inr ⟨d, ds, h1, h2, h3, h4, by rw [← e]; exact q2⟩)
/-! is -/
def isNon : D → Option Bool
  | .non => some true
  | .fn _ => none
  | _ => some false
def dIs : Sto → D → D → Option D
  | _, x, .non => (isNon x).map .bl
  | _, .bl a, .bl b => some (.bl (decide (a = b)))
  | _, _, _ => none
def dIsNot : Sto → D → D → Option D
  | _, x, .non => (isNon x).map fun b => .bl (!b)
  | _, .bl a, .bl b => some (.bl (!decide (a = b)))
  | _, _, _ => none
def rIs : R2 := fun x y H Q => (y = .non ∧ Q (.bl (decide (x = .non))) H) ∨ rIsB x y H Q
def rIsNot : R2 := fun x y H Q => (y = .non ∧ Q (.bl (!decide (x = .non))) H) ∨ rNotB x y H Q
theorem o_is : OpR X (compareOp .Is) rIs := op_isN.or op_isBl
theorem o_isNot : OpR X (compareOp .IsNot) rIsNot := op_notN.or op_notBl
theorem isNon_of {x : D} {b : Bool} {v : V} (h : isNon x = some b) (r : RepT g B ι H x v) : decide (v = .non) = b := by
  cases x with
  | non => cases h; simp [r.non]
  | bl y => cases h; simp [r.bl]
  | int y => cases h; simp [r.int]
  | str y => cases h; simp [r.str]
  | tup y => cases h; obtain ⟨a, vs, e, _⟩ := r.tup; simp [e]
  | lst y => cases h; obtain ⟨a, vs, e, _⟩ := r.lst; simp [e]
  | scr y => cases h; obtain ⟨a, e, _⟩ := r.scr; simp [e]
  | dct y z =>
    cases h
    have r := r.val (fun _ z => nomatch z)
    simp only [Rep] at r
    obtain ⟨a, us, e, _⟩ := r
    simp [e]
  | loc n =>
    cases h
    have r := r.val (fun _ z => nomatch z)
    simp only [Rep] at r
    obtain ⟨a, _, e⟩ := r
    simp [e]
  | fn x => cases h
  | clo k cs =>
    have r := r.val (fun _ z => nomatch z)
    simp [Rep] at r
theorem v_is : VOp g rIs dIs := fun ι B μ H x y vx vy d Q k rx ry hd q => by
  unfold dIs at hd
  split at hd
  · cases hn : isNon x with
    | none => rw [hn] at hd; cases hd
    | some b =>
      rw [hn] at hd
      cases hd
      exact .inl ⟨ry.non, by rw [isNon_of hn rx]; exact same k q (by simp [Rep])⟩
  · cases hd
    exact .inr ⟨_, _, rx.bl, ry.bl, same k q (by simp [Rep])⟩
  · cases hd
theorem v_isNot : VOp g rIsNot dIsNot := fun ι B μ H x y vx vy d Q k rx ry hd q => by
  unfold dIsNot at hd
  split at hd
  · cases hn : isNon x with
    | none => rw [hn] at hd; cases hd
    | some b =>
      rw [hn] at hd
      cases hd
      exact .inl ⟨ry.non, by rw [isNon_of hn rx]; exact same k q (by simp [Rep])⟩
  · cases hd
    exact .inr ⟨_, _, rx.bl, ry.bl, same k q (by simp [Rep])⟩
  · cases hd

/-! places -/
def dIx : Sto → D → D → Option D
  | _, .lst ds, .int i => atI ds i
  | _, .tup ds, .int i => atI ds i
  | _, .str z, .int i => if z.length ≤ big then (atI z.cps.toList i).map fun c => .str ⟨#[c]⟩ else none
  | _, .scr ns, .int i => (atI ns i).map .int
  | μ, .loc n, .int i => match μ[n]? with
    | some (.lst ds) => atI ds i
    | _ => none
  | _, _, _ => none
theorem atI_map {α β : Type} (f : α → β) (xs : List α) (i : Int) : atI (xs.map f) i = (atI xs i).map f := by
  unfold atI
  rw [List.length_map]
  cases ixN xs.length i with
  | none => rfl
  | some j => simp
theorem v_ix : VOp g (rIx g.K) dIx := fun ι B μ H x y vx vy d Q k rx ry hd q => by
  unfold dIx at hd
  split at hd
  · obtain ⟨a, vs, e1, h1, r1⟩ := rx.lst
    obtain ⟨v, hv, rv⟩ := r1.atI hd
    exact .inl ⟨a, vs, _, v, e1, ry.int, .of h1, hv, same k q rv⟩
  · obtain ⟨a, vs, e1, h1, r1⟩ := rx.tup
    obtain ⟨v, hv, rv⟩ := r1.atI hd
    exact .inr (.inl ⟨a, vs, _, v, e1, ry.int, h1, hv, same k q rv⟩)
  · split at hd
    · rename_i z i hz
      cases hc : atI z.cps.toList i with
      | none => rw [hc] at hd; cases hd
      | some c =>
        rw [hc] at hd
        cases hd
        exact .inr (.inr ⟨z, i, c, rx.str, ry.int, big_le hz, hc, same k q (by simp [Rep])⟩)
    · cases hd
  · rename_i ns i
    obtain ⟨a, e1, h1⟩ := rx.scr
    cases hc : atI ns i with
    | none => rw [hc] at hd; cases hd
    | some c =>
      rw [hc] at hd
      cases hd
      exact .inl ⟨a, _, i, .int c, e1, ry.int, h1.sq, by rw [atI_map, hc]; rfl, same k q (by simp [Rep])⟩
  · split at hd
    · rename_i ds hm
      obtain ⟨a, vs, e1, h1, r1⟩ := rx.loc k hm
      obtain ⟨v, hv, rv⟩ := r1.atI hd
      exact .inl ⟨a, vs, _, v, e1, ry.int, .of h1, hv, same k q rv⟩
    · cases hd
  · cases hd
/-! len -/
def dLen : Sto → List D → Option D
  | _, [.lst ds] => some (.int (ds.length : Nat))
  | _, [.tup ds] => some (.int (ds.length : Nat))
  | _, [.scr ds] => some (.int (ds.length : Nat))
  | _, [.str z] => if z.length ≤ big then some (.int (z.length : Nat)) else none
  | μ, [.loc n] => match μ[n]? with
    | some (.lst ds) => some (.int (ds.length : Nat))
    | _ => none
  | _, _ => none
theorem repTs_one {x : D} {vs : List V} (h : RepTs g B ι H [x] vs) : ∃ v, vs = [v] ∧ RepT g B ι H x v := by
  simp only [RepTs] at h
  obtain ⟨v, r, e, h1, h2⟩ := h
  subst h2
  exact ⟨v, e, h1⟩
theorem repTs_two {x y : D} {vs : List V} (h : RepTs g B ι H [x, y] vs) : ∃ v u, vs = [v, u] ∧ RepT g B ι H x v ∧ RepT g B ι H y u := by
  simp only [RepTs] at h
  obtain ⟨v, r, e, h1, u, r2, e2, h2, h3⟩ := h
  subst h3 e2
  exact ⟨v, u, e, h1, h2⟩
def rLen (K : PySem.W.Frag) : List V → Hp → VK → Prop := fun xs H Q => ∃ x n, xs = [x] ∧ LenV K x H n ∧ Q (.int n) H
theorem o_len : CallR X (.builtin "len") (rLen X.K) := call_len
theorem v_len : VCall g (rLen g.K) dLen := fun ι B μ H xs vs d Q k r hd q => by
  unfold dLen at hd
  split at hd
  · cases hd
    obtain ⟨v, e, r⟩ := repTs_one r
    obtain ⟨a, vs, e1, h1, r1⟩ := r.lst
    subst e1
    exact ⟨_, _, e, .inl ⟨vs, .of h1, rfl⟩, by rw [← r1.as.len]; exact same k q (by simp [Rep])⟩
  · cases hd
    obtain ⟨v, e, r⟩ := repTs_one r
    obtain ⟨a, vs, e1, h1, r1⟩ := r.tup
    subst e1
    exact ⟨_, _, e, .inr ⟨vs, h1, rfl⟩, by rw [← r1.as.len]; exact same k q (by simp [Rep])⟩
  · cases hd
    obtain ⟨v, e, r⟩ := repTs_one r
    obtain ⟨a, e1, h1⟩ := r.scr
    subst e1
    exact ⟨_, _, e, .inl ⟨_, h1.sq, rfl⟩, by rw [List.length_map]; exact same k q (by simp [Rep])⟩
  · split at hd
    · rename_i hz
      cases hd
      obtain ⟨v, e, r⟩ := repTs_one r
      have e1 := r.str
      subst e1
      exact ⟨_, _, e, ⟨big_le hz, rfl⟩, same k q (by simp [Rep])⟩
    · cases hd
  · obtain ⟨v, e, r⟩ := repTs_one r
    split at hd
    · rename_i ds hm
      cases hd
      obtain ⟨a, vs, e1, h1, r1⟩ := r.loc k hm
      subst e1
      exact ⟨_, _, e, .inl ⟨vs, .of h1, rfl⟩, by rw [← r1.as.len]; exact same k q (by simp [Rep])⟩
    · cases hd
  · cases hd
end
end MP

set_option Elab.async false
set_option linter.all false
set_option maxRecDepth 100000
set_option maxHeartbeats 4000000
/-! parts, calls, displays, texts -/
namespace MP
open PySem PySem.Spec PyProof.Rows L2
abbrev RO : (Addr → Prop) → List Addr → Hp → Option Int → Option Int → Prop := fun _ _ _ a b => a = b
abbrev sO (g : G) (W : WX) (m : Ex (Option Int)) : TO := sem g W RO m
def mNo : Ex (Option Int) := fun _ μ => .ok none μ
def mPart (a : Ex D) : Ex (Option Int) := fun ρ μ => (a ρ μ).bind fun x μ1 => match x with
  | .int i => .ok (some i) μ1
  | _ => .er
section
variable {g : G} {W : WX} {X : Cx}
theorem imO {a : Option Expr} {t t' : TO} (h : PO X a t) (i : ∀ σ H Q, t' σ H Q → t σ H Q) : PO X a t' := ⟨fun p s σ H Q I q => h.run p s σ H Q I (i _ _ _ q)⟩
theorem p_no : PO X none (sO g W mNo) := imO po_none fun σ H Q q => by
  obtain ⟨e, ι, B, O, ρ, μ, b1, p⟩ := q
  exact p none ι B H (.refl _ _ _) b1 rfl
theorem p_some {a : Expr} {m : Ex D} (h : PE X a (sE g W m)) : PO X (some a) (sO g W (mPart m)) := imO (po_some h) fun σ H Q q => by
  obtain ⟨e, ι, B, O, ρ, μ, b1, p⟩ := q
  refine ⟨e, ι, B, O, ρ, μ, b1, (Post.bind (R := RD g) p).imp fun vx H1 ⟨x, ι1, B1, μ1, x1, b1, r1, p1⟩ => ?_⟩
  cases x with
  | int i => exact ⟨i, by simpa [Rep] using r1, p1 _ ι1 B1 H1 (.refl _ _ _) b1 rfl⟩
  | _ => exact p1.elim
def cut {α : Type} (xs : List α) (lo hi : Option Int) : List α := (xs.drop (HT.sIx xs.length 0 lo)).take (HT.sIx xs.length xs.length hi - HT.sIx xs.length 0 lo)
def dSl : Sto → D → Option Int → Option Int → Option D
  | _, .lst ds, lo, hi => some (.lst (cut ds lo hi))
  | _, .tup ds, lo, hi => some (.tup (cut ds lo hi))
  | _, .scr ns, lo, hi => some (.lst ((cut ns lo hi).map .int))
  | _, .str z, lo, hi => if z.length ≤ big then some (.str (cutS z lo hi)) else none
  | _, _, _, _ => none
def rSl (K : PySem.W.Frag) : V → Option Int → Option Int → Hp → VK → Prop := fun x lo hi H Q => rSlL K x lo hi H Q ∨ rSlA K x lo hi H Q ∨ rSlS x lo hi H Q
theorem o_sl : L2.SlR X (rSl X.K) := sl_list.or (sl_tupA.or sl_str)
theorem cut_map {α β : Type} (f : α → β) (xs : List α) (lo hi : Option Int) : cut (xs.map f) lo hi = (cut xs lo hi).map f := by
  unfold cut
  rw [List.length_map, List.map_take, List.map_drop]
theorem Reps.cut {ι : List Addr} {B : Addr → Prop} {H : Hp} {ds : List D} {vs : List V} (h : Reps g B ι H ds vs) (lo hi : Option Int) : Reps g B ι H (MP.cut ds lo hi) (cutV vs lo hi) := by
  unfold MP.cut cutV
  rw [← h.as.len]
  exact Reps.take _ (Reps.drop _ h)
theorem cut_all {α : Type} {xs : List α} {lo hi : Option Int} (h : HT.sIx xs.length 0 lo = 0 ∧ HT.sIx xs.length xs.length hi = xs.length) : cut xs lo hi = xs := by
  unfold cut
  rw [h.1, h.2]
  simp
theorem v_sl {ι : List Addr} {B : Addr → Prop} {μ : Sto} {H : Hp} {x : D} {vx : V} {lo hi : Option Int} {d : D} {Q : VK} (k : Sk g ι B μ H) (rx : RepT g B ι H x vx) (hd : dSl μ x lo hi = some d) (q : ∀ v H', Ext ι B H ι B H' → Sk g ι B μ H' → Rep g B ι H' d v → Q v H') : rSl g.K vx lo hi H Q := by
  unfold dSl at hd
  split at hd
  · cases hd
    obtain ⟨a, vs, e1, h1, r1⟩ := rx.lst
    exact .inl ⟨a, vs, e1, .of h1, fun p hp => mkL k hp q (r1.cut _ _)⟩
  · cases hd
    obtain ⟨a, vs, e1, h1, r1⟩ := rx.tup
    refine .inr (.inl ⟨a, vs, e1, h1, fun w => same k q ?_, fun w p hp => mkT k hp q (r1.cut _ _)⟩)
    rw [← r1.as.len] at w
    rw [cut_all w]
    simp only [Rep]
    exact ⟨a, vs, rfl, h1, r1⟩
  · rename_i ns
    cases hd
    obtain ⟨a, e1, h1⟩ := rx.scr
    refine .inl ⟨a, _, e1, h1.sq, fun p hp => ?_⟩
    have r : Reps g B ι H (ns.map D.int) (ns.map V.int) := reps_ints
    exact mkL k hp q (by rw [← cut_map]; exact r.cut _ _)
  · split at hd
    · rename_i hz
      cases hd
      exact .inr (.inr ⟨_, rx.str, big_le hz, same k q (by simp [Rep])⟩)
    · cases hd
  · cases hd
def mSl (a : Ex D) (lo hi : Ex (Option Int)) : Ex D := fun ρ μ => (a ρ μ).bind fun x μ1 => (lo ρ μ1).bind fun l μ2 => (hi ρ μ2).bind fun h μ3 => opt (dSl μ3 x l h) μ3
theorem e_sl {a : Expr} {lo hi : Option Expr} {m : Ex D} {ml mh : Ex (Option Int)} {pos p2 : Pos} (hK : X.K = g.K) (ha : PE X a (sT g W m)) (hl : PO X lo (sO g W ml)) (hh : PO X hi (sO g W mh)) : PE X (.Subscript a (.Slice lo hi none p2) pos) (sE g W (mSl m ml mh)) :=
  imE (pe_slice o_sl ha hl hh) fun σ H Q q => by
    obtain ⟨e, ι, B, O, ρ, μ, b1, p⟩ := q
    refine ⟨e, ι, B, O, ρ, μ, b1, (Post.bind (R := RT g) p).imp fun vx H1 ⟨x, ι1, B1, μ1, x1, b1, r1, p1⟩ => ?_⟩
    refine ⟨e, ι1, B1, O, ρ, μ1, b1, (Post.bind (R := RO) p1).imp fun l H2 ⟨l', ι2, B2, μ2, x2, b2, r2, p2⟩ => ?_⟩
    refine ⟨e, ι2, B2, O, ρ, μ2, b2, (Post.bind (R := RO) p2).imp fun h H3 ⟨h', ι3, B3, μ3, x3, b3, r3, p3⟩ => ?_⟩
    obtain rfl : l' = l := r2
    obtain rfl : h' = h := r3
    obtain ⟨d, hd, q⟩ := p3.opt b3
    rw [hK]
    exact v_sl b3.sk ((r1.step x2 b1.sk).step x3 b2.sk) hd q

/-! ### isinstance -/
inductive TyN where | int | bl | str | tup | lst | dct
inductive TyK where | non | int | bl | str | tup | lst | dct
def TyN.nm : TyN → String
  | .int => "int" | .bl => "bool" | .str => "str" | .tup => "tuple" | .lst => "list" | .dct => "dict"
def TyK.nm : TyK → String
  | .non => "NoneType" | .int => "int" | .bl => "bool" | .str => "str" | .tup => "tuple" | .lst => "list" | .dct => "dict"
def isiB : TyN → TyK → Bool
  | .int, .int => true
  | .int, .bl => true
  | .bl, .bl => true
  | .str, .str => true
  | .tup, .tup => true
  | .lst, .lst => true
  | .dct, .dct => true
  | _, _ => false
theorem isi_kit (n : TyN) (k : TyK) : kitB k.nm n.nm = some (isiB n k) := by
  cases n <;> cases k <;> decide +kernel
def tyD : Sto → D → Option TyK
  | _, .non => some .non
  | _, .bl _ => some .bl
  | _, .int _ => some .int
  | _, .str _ => some .str
  | _, .tup _ => some .tup
  | _, .lst _ => some .lst
  | _, .scr _ => some .lst
  | _, .dct _ _ => some .dct
  | μ, .loc n => match μ[n]? with
    | some (.lst _) => some .lst
    | _ => none
  | _, _ => none
theorem ty_of {ι : List Addr} {B : Addr → Prop} {μ : Sto} {H : Hp} {x : D} {vx : V} {t : TyK} (k : Sk g ι B μ H) (rx : RepT g B ι H x vx) (ht : tyD μ x = some t) : TyX g.K H vx (.type t.nm) := by
  unfold tyD at ht
  split at ht
  · cases ht; rw [rx.non]; exact .base .non
  · cases ht; rw [rx.bl]; exact .base (.bl _)
  · cases ht; rw [rx.int]; exact .base (.int _)
  · cases ht; rw [rx.str]; exact .base (.str _)
  · cases ht
    obtain ⟨a, vs, e1, h1, r1⟩ := rx.tup
    rw [e1]
    rcases h1 with (h1 | ⟨o, h1⟩) | ⟨o, its, n, h1, hc, _⟩
    · exact .base (.tup h1)
    · exact .fTuple h1
    · exact .kTuple h1 hc
  · cases ht
    obtain ⟨a, vs, e1, h1, r1⟩ := rx.lst
    rw [e1]
    exact .base (.lst h1)
  · cases ht
    obtain ⟨a, e1, h1⟩ := rx.scr
    rw [e1]
    rcases h1 with ⟨h1, _⟩ | ⟨o, h1⟩ | ⟨o, its, n, h1, hc, _⟩
    · exact .base (.lst h1)
    · exact .base (.frz h1)
    · exact .kList h1 hc
  · cases ht
    have r := rx.val (fun _ z => nomatch z)
    simp only [Rep] at r
    obtain ⟨a, us, e, _, _, r⟩ := r
    rw [e]
    rcases r with ⟨kk, r, _⟩ | ⟨kk, r, _⟩
    · exact .base (.dK r)
    · exact .base (.dT r)
  · split at ht
    · rename_i ds hm
      cases ht
      obtain ⟨a, vs, e1, h1, r1⟩ := rx.loc k hm
      rw [e1]
      exact .base (.lst h1)
    · cases ht
  · cases ht
def dIsi (n : TyN) : Sto → D → Option D := fun μ x => (tyD μ x).map fun t => .bl (isiB n t)
theorem tyn_boot (n : TyN) : bootBuiltins (Str.ofString n.nm) = some (.type n.nm) := by
  cases n <;> decide +kernel
theorem e_isi {a : Expr} {m : Ex D} {n : TyN} {nm : Str} {p p2 pos : Pos} (hK : X.K = g.K) (hg : Gl X "isinstance") (hm : X.mg "isinstance" = none) (hg2 : Gl X nm) (hm2 : X.mg nm = none) (hnm : nm = Str.ofString n.nm) (ha : PE X a (sT g W m))
    (he : starEach [a, .Name nm p2] X.env = (false, eval a X.env) :: starEach [.Name nm p2] X.env := by rfl) (he2 : starEach [.Name nm p2] X.env = (false, eval (.Name nm p2) X.env) :: starEach [] X.env := by rfl)
    (hpl : (backTo pos (starEach [.Name nm p2] X.env)).any (·.1) = false := by rfl) (hn : nm ≠ "__name__" := by decide) (hdb : (nm == ("__debug__" : Str)) = false := by decide) :
    PE X (.Call (.Name "isinstance" p) [a, .Name nm p2] [] pos) (sE g W (m1 (dIsi n) m)) :=
  imE (pe_callB call_isi hg hm PyProof.Rows.boot_isinstance (pa_cons ha (pa_cons (pe_bltn (v := .ty n.nm) hg2 hm2 (by rw [hnm]; exact tyn_boot n) rfl hn hdb) pa_nil he2) he) (by decide) (by decide) he hpl) fun σ H Q q => by
    obtain ⟨e, ι, B, O, ρ, μ, b1, p⟩ := q
    refine ⟨e, ι, B, O, ρ, μ, b1, (Post.bind (R := RT g) p).imp fun vx H1 ⟨x, ι1, B1, μ1, x1, b1, r1, p1⟩ => ?_⟩
    obtain ⟨d, hd, q⟩ := p1.opt b1
    unfold dIsi at hd
    cases ht : tyD μ1 x with
    | none => rw [ht] at hd; cases hd
    | some t =>
      rw [ht] at hd
      cases hd
      exact ⟨vx, .ty n.nm, .type t.nm, .type n.nm, isiB n t, rfl, .ty _, by rw [hK]; exact ty_of b1.sk r1 ht, kit_ty (isi_kit n t), same b1.sk q (by simp [Rep])⟩

/-! ### chains -/
def mChain (op op' : Sto → D → D → Option D) (a b c : Ex D) : Ex D := fun ρ μ => (a ρ μ).bind fun x μ1 => (b ρ μ1).bind fun y μ2 => match op μ2 x y with
  | some (.bl true) => (c ρ μ2).bind fun z μ3 => opt (op' μ3 y z) μ3
  | some (.bl false) => .ok (.bl false) μ2
  | _ => .er
theorem chainT {r r' : R2} {op op' : Sto → D → D → Option D} (vo : VOp g r op) (vo' : VOp g r' op') {a b c : Ex D} : ∀ σ H Q, sE g W (mChain op op' a b c) σ H Q → tChain r r' (sT g W a) (sT g W b) (sT g W c) σ H Q := fun σ H Q q => by
  obtain ⟨e, ι, B, O, ρ, μ, b1, p⟩ := q
  refine ⟨e, ι, B, O, ρ, μ, b1, (Post.bind (R := RT g) p).imp fun vx H1 ⟨x, ι1, B1, μ1, x1, b1, r1, p1⟩ => ?_⟩
  refine ⟨e, ι1, B1, O, ρ, μ1, b1, (Post.bind (R := RT g) p1).imp fun vy H2 ⟨y, ι2, B2, μ2, x2, b2, r2, p2⟩ => ?_⟩
  split at p2
  · rename_i hop
    refine vo ι2 B2 μ2 H2 x y vx vy _ _ b2.sk (r1.step x2 b1.sk) r2 hop fun v H3 x3 k3 rv => ⟨true, by simpa [Rep] using rv, ?_⟩
    simp only [if_true]
    refine ⟨e, ι2, B2, O, ρ, μ2, b2.step x3 k3, (Post.bind (R := RT g) (Post.later x3 p2)).imp fun vz H4 ⟨z, ι4, B4, μ4, x4, b4, r4, p4⟩ => ?_⟩
    obtain ⟨d, hd, q⟩ := p4.opt b4
    exact vo' ι4 B4 μ4 H4 y z vy vz d Q b4.sk ((r2.step x3 b2.sk).step x4 k3) r4 hd q
  · rename_i hop
    refine vo ι2 B2 μ2 H2 x y vx vy _ _ b2.sk (r1.step x2 b1.sk) r2 hop fun v H3 x3 k3 rv => ⟨false, by simpa [Rep] using rv, ?_⟩
    simp only [Bool.false_eq_true, if_false]
    exact p2 _ ι2 B2 H3 x3 (b2.step x3 k3) (by simp [Rep])
  · exact p2.elim
theorem e_chain {o o' : CmpOp} {r r' : R2} {op op' : Sto → D → D → Option D} {a b c : Expr} {ma mb mc : Ex D} {pos : Pos} (ho : OpR X (compareOp o) r) (ho' : OpR X (compareOp o') r') (vo : VOp g r op) (vo' : VOp g r' op')
    (ha : PE X a (sT g W ma)) (hb : PE X b (sT g W mb)) (hc : PE X c (sT g W mc)) (hm : lastMarks [o, o'] [b, c] = false := by with_unfolding_all rfl) : PE X (.Compare a [o, o'] [b, c] pos) (sE g W (mChain op op' ma mb mc)) :=
  imE (pe_chain ho ho' ha hb hc hm) (chainT vo vo')

/-! ### displays -/
def mTup (as : Ex (List D)) : Ex D := fun ρ μ => (as ρ μ).bind fun ds μ1 => if ds.length ≤ big then .ok (.tup ds) μ1 else .er
def mLst (as : Ex (List D)) : Ex D := fun ρ μ => (as ρ μ).bind fun ds μ1 => if ds.length ≤ big then .ok (.lst ds) μ1 else .er
theorem e_tup {as : List Expr} {ms : Ex (List D)} {k pos} (h : PA X as (sD g W ms)) : PE X (.Tuple as k pos) (sE g W (mTup ms)) := imE (pe_tup h) fun σ H Q q => by
  obtain ⟨e, ι, B, O, ρ, μ, b1, p⟩ := q
  refine ⟨e, ι, B, O, ρ, μ, b1, (Post.bind (R := RDs g) p).imp fun vs H1 ⟨ds, ι1, B1, μ1, x1, b1, r1, p1⟩ => ?_⟩
  split at p1
  · rename_i hl
    exact ⟨by rw [← r1.as.len]; exact big_le hl, fun a ha => mkT (μ := μ1) b1.sk ha (fun v H' x k r => p1 v ι1 B1 H' x (b1.step x k) r) r1⟩
  · exact p1.elim
theorem e_lst {as : List Expr} {ms : Ex (List D)} {pos} (h : PA X as (sD g W ms)) : PE X (.List as pos) (sE g W (mLst ms)) := imE (pe_lst h) fun σ H Q q => by
  obtain ⟨e, ι, B, O, ρ, μ, b1, p⟩ := q
  refine ⟨e, ι, B, O, ρ, μ, b1, (Post.bind (R := RDs g) p).imp fun vs H1 ⟨ds, ι1, B1, μ1, x1, b1, r1, p1⟩ => ?_⟩
  split at p1
  · rename_i hl
    exact ⟨by rw [← r1.as.len]; exact big_le hl, fun a ha => mkL (μ := μ1) b1.sk ha (fun v H' x k r => p1 v ι1 B1 H' x (b1.step x k) r) r1⟩
  · exact p1.elim

/-! ### f-strings -/
def fmtD : D → Option Str
  | .str y => if y.length ≤ big then some y else none
  | .int i => if i.natAbs.log2 < 1920 then some (toString i) else none
  | _ => none
def dFmt : Sto → D → Option D := fun _ x => (fmtD x).map .str
theorem e_fmt {a : Expr} {m : Ex D} {pos : Pos} (h : PE X a (sE g W m)) : PE X (.FormattedValue a (-1) none pos) (sE g W (m1 dFmt m)) := imE (pe_fmt h) fun σ H Q q => by
  obtain ⟨e, ι, B, O, ρ, μ, b1, p⟩ := q
  refine ⟨e, ι, B, O, ρ, μ, b1, (Post.bind (R := RD g) p).imp fun vx H1 ⟨x, ι1, B1, μ1, x1, b1, r1, p1⟩ => ?_⟩
  obtain ⟨d, hd, q⟩ := p1.opt b1
  unfold dFmt at hd
  cases hf : fmtD x with
  | none => rw [hf] at hd; cases hd
  | some s =>
    rw [hf] at hd
    cases hd
    unfold fmtD at hf
    split at hf
    · split at hf
      · rename_i hl
        cases hf
        exact .inl ⟨_, (RepT.of r1).str, big_le hl, same b1.sk q (by simp [Rep])⟩
      · cases hf
    · split at hf
      · rename_i hl
        cases hf
        exact .inr ⟨_, (RepT.of r1).int, hl, same b1.sk q (by simp [Rep])⟩
      · cases hf
    · cases hf
def mJs : List (Ex D) → Str → Ex Str
  | [], acc => fun _ μ => .ok acc μ
  | m :: ms, acc => fun ρ μ => (m ρ μ).bind fun x μ1 => match x with
    | .str y => if (acc ++ y).length ≤ big then mJs ms (acc ++ y) ρ μ1 else .er
    | _ => .er
abbrev RS : (Addr → Prop) → List Addr → Hp → Str → Str → Prop := fun _ _ _ a b => a = b
theorem jsT : ∀ (ms : List (Ex D)) (acc : Str) (σ : L2.St) (H : Hp) (Q : Str → Hp → Prop), sem g W RS (mJs ms acc) σ H Q → tJs (ms.map (sE g W)) acc σ H Q
  | [], acc, σ, H, Q, q => by
    obtain ⟨e, ι, B, O, ρ, μ, b1, p⟩ := q
    exact p acc ι B H (.refl _ _ _) b1 rfl
  | m :: ms, acc, σ, H, Q, q => by
    obtain ⟨e, ι, B, O, ρ, μ, b1, p⟩ := q
    refine ⟨e, ι, B, O, ρ, μ, b1, (Post.bind (R := RD g) p).imp fun vx H1 ⟨x, ι1, B1, μ1, x1, b1, r1, p1⟩ => ?_⟩
    cases x with
    | str y =>
      simp only at p1
      split at p1
      · rename_i hl
        exact ⟨y, by simpa [Rep] using r1, big_le hl, jsT ms _ σ H1 Q ⟨e, ι1, B1, O, ρ, μ1, b1, p1⟩⟩
      · exact p1.elim
    | _ => exact p1.elim
/-- the parts' judgements -/
inductive PJs (g : G) (W : WX) (X : Cx) : List Expr → List (Ex D) → Prop where
  | nil : PJs g W X [] []
  | cons {e : Expr} {t : Ex D} {es : List Expr} {ts : List (Ex D)} (h : PE X e (sE g W t)) (r : PJs g W X es ts) : PJs g W X (e :: es) (t :: ts)
theorem PJs.pj {es : List Expr} {ts : List (Ex D)} (h : PJs g W X es ts) : PJ X es (ts.map (sE g W)) := by
  induction h with
  | nil => exact .nil
  | cons h _ ih => exact .cons h ih
def mJoined (ms : List (Ex D)) : Ex D := fun ρ μ => (mJs ms Str.empty ρ μ).bind fun s μ1 => .ok (.str s) μ1
theorem e_joined {v1 v2 : Expr} {rest : List Expr} {ms : List (Ex D)} {pos : Pos} (h : PJs g W X (v1 :: v2 :: rest) ms) : PE X (.JoinedStr (v1 :: v2 :: rest) pos) (sE g W (mJoined ms)) := imE (pe_joined h.pj) fun σ H Q q => by
  obtain ⟨e, ι, B, O, ρ, μ, b1, p⟩ := q
  refine jsT ms Str.empty σ H _ ⟨e, ι, B, O, ρ, μ, b1, (Post.bind (R := RS) p).imp fun vx H1 ⟨x, ι1, B1, μ1, x1, b1, r1, p1⟩ => ?_⟩
  obtain rfl : x = vx := r1
  exact p1 _ ι1 B1 H1 (.refl _ _ _) b1 (by simp [Rep])
theorem e_joined1 {a : Expr} {m : Ex D} {pos : Pos} (h : PE X a (sE g W m)) : PE X (.JoinedStr [a] pos) (sE g W m) := pe_joined1 h
end
end MP

set_option Elab.async false
set_option linter.all false
set_option maxRecDepth 100000
set_option maxHeartbeats 4000000
/-! built-in calls, methods -/
namespace MP
open PySem PySem.Spec PyProof.Rows L2
section
variable {g : G} {W : WX} {X : Cx} {ι : List Addr} {B : Addr → Prop} {μ : Sto} {H : Hp}
theorem ne_lst {ds : List D} {v : V} (h : RepT g B ι H (.lst ds) v) : True := trivial
def dAbs : Sto → List D → Option D
  | _, [.int i] => some (.int (if i < 0 then -i else i))
  | _, _ => none
theorem v_abs : VCall g (fun xs H Q => ∃ i, xs = [.int i] ∧ Q (.int (if i < 0 then -i else i)) H) dAbs := fun ι B μ H xs vs d Q k r hd q => by
  unfold dAbs at hd
  split at hd
  · cases hd
    obtain ⟨v, e, r⟩ := repTs_one r
    rw [r.int] at e
    exact ⟨_, e, same k q (by simp [Rep])⟩
  · cases hd
def dMax2 : Sto → List D → Option D
  | _, [.int i, .int j] => some (.int (if j > i then j else i))
  | _, _ => none
theorem v_max2 : VCall g (fun xs H Q => ∃ i j, xs = [.int i, .int j] ∧ Q (.int (if j > i then j else i)) H) dMax2 := fun ι B μ H xs vs d Q k r hd q => by
  unfold dMax2 at hd
  split at hd
  · cases hd
    obtain ⟨v, u, e, r, r2⟩ := repTs_two r
    rw [r.int, r2.int] at e
    exact ⟨_, _, e, same k q (by simp [Rep])⟩
  · cases hd
def dMin2 : Sto → List D → Option D
  | _, [.int i, .int j] => some (.int (if j < i then j else i))
  | _, _ => none
theorem v_min2 : VCall g (fun xs H Q => ∃ i j, xs = [.int i, .int j] ∧ Q (.int (if j < i then j else i)) H) dMin2 := fun ι B μ H xs vs d Q k r hd q => by
  unfold dMin2 at hd
  split at hd
  · cases hd
    obtain ⟨v, u, e, r, r2⟩ := repTs_two r
    rw [r.int, r2.int] at e
    exact ⟨_, _, e, same k q (by simp [Rep])⟩
  · cases hd
def dInt : Sto → List D → Option D
  | _, [.int i] => some (.int i)
  | _, [.bl b] => some (.int (if b then 1 else 0))
  | _, [.str a] => if a.length ≤ 640 then (PySem.intText? a).map .int else none
  | _, _ => none
def rInt : List V → Hp → VK → Prop := fun xs H Q => ((∃ i, xs = [.int i] ∧ Q (.int i) H) ∨ ∃ k, xs = [.bl k] ∧ Q (.int (if k then 1 else 0)) H) ∨ ∃ a n, xs = [.str a] ∧ PySem.intText? a = some n ∧ a.length ≤ 640 ∧ Q (.int n) H
theorem o_int : CallR X (.type "int") rInt := call_int1.or call_int_str
theorem v_int : VCall g rInt dInt := fun ι B μ H xs vs d Q k r hd q => by
  unfold dInt at hd
  split at hd
  · cases hd
    obtain ⟨v, e, r⟩ := repTs_one r
    rw [r.int] at e
    exact .inl (.inl ⟨_, e, same k q (by simp [Rep])⟩)
  · cases hd
    obtain ⟨v, e, r⟩ := repTs_one r
    rw [r.bl] at e
    exact .inl (.inr ⟨_, e, same k q (by simp [Rep])⟩)
  · obtain ⟨v, e, r⟩ := repTs_one r
    rw [r.str] at e
    split at hd
    · rename_i hl
      rename_i a _
      cases hn : PySem.intText? a with
      | none => rw [hn] at hd; cases hd
      | some n =>
        rw [hn] at hd
        cases hd
        exact .inr ⟨_, n, e, hn, hl, same k q (by simp [Rep])⟩
    · cases hd
  · cases hd
def dStr : Sto → List D → Option D
  | _, [.int i] => if i.natAbs.log2 < 1920 then some (.str (toString i)) else none
  | _, _ => none
theorem v_str : VCall g (fun xs H Q => ∃ i, xs = [.int i] ∧ i.natAbs.log2 < 1920 ∧ Q (.str (toString i)) H) dStr := fun ι B μ H xs vs d Q k r hd q => by
  unfold dStr at hd
  split at hd
  · split at hd
    · rename_i hl
      cases hd
      obtain ⟨v, e, r⟩ := repTs_one r
      rw [r.int] at e
      exact ⟨_, e, hl, same k q (by simp [Rep])⟩
    · cases hd
  · cases hd
def dDivmod : Sto → List D → Option D
  | _, [.int i, .int j] => if 0 < j ∧ j < 1073741824 then some (.tup [.int (i / j), .int (i % j)]) else none
  | _, _ => none
def rDivmod : List V → Hp → VK → Prop := fun xs H Q => ∃ i j, xs = [.int i, .int j] ∧ CDiv i j ∧ ∀ p, H p = none → Q (.ref p) (upd H p (.tup [.int (i / j), .int (i % j)]))
theorem o_divmod : CallR X (.builtin "divmod") rDivmod := call_divmod
theorem v_divmod : VCall g rDivmod dDivmod := fun ι B μ H xs vs d Q k r hd q => by
  unfold dDivmod at hd
  split at hd
  · split at hd
    · rename_i hl
      cases hd
      obtain ⟨v, u, e, r, r2⟩ := repTs_two r
      rw [r.int, r2.int] at e
      exact ⟨_, _, e, hl, fun p hp => mkT k hp q (by simp [Reps, Rep])⟩
    · cases hd
  · cases hd
def dTuple : Sto → List D → Option D
  | _, [.lst ds] => some (.tup ds)
  | _, [.tup ds] => some (.tup ds)
  | μ, [.loc n] => match μ[n]? with
    | some (.lst ds) => some (.tup ds)
    | _ => none
  | _, _ => none
def rTuple (K : PySem.W.Frag) : List V → Hp → VK → Prop := fun xs H Q => ∃ p ys, xs = [.ref p] ∧ ((SqL K H p ys ∧ ∀ l, H l = none → Q (.ref l) (upd H l (.tup ys))) ∨ (SqT K H p ys ∧ Q (.ref p) H))
theorem o_tuple : CallR X (.type "tuple") (rTuple X.K) := call_tuple_of
theorem v_tuple : VCall g (rTuple g.K) dTuple := fun ι B μ H xs vs d Q k r hd q => by
  unfold dTuple at hd
  split at hd
  · cases hd
    obtain ⟨v, e, r⟩ := repTs_one r
    obtain ⟨a, vs, e1, h1, r1⟩ := r.lst
    subst e1
    exact ⟨a, vs, e, .inl ⟨.of h1, fun p hp => mkT k hp q r1⟩⟩
  · cases hd
    obtain ⟨v, e, r⟩ := repTs_one r
    obtain ⟨a, vs, e1, h1, r1⟩ := r.tup
    subst e1
    refine ⟨a, vs, e, .inr ⟨h1, same k q ?_⟩⟩
    simp only [Rep]
    exact ⟨a, vs, rfl, h1, r1⟩
  · obtain ⟨v, e, r⟩ := repTs_one r
    split at hd
    · rename_i ds hm
      cases hd
      obtain ⟨a, vs, e1, h1, r1⟩ := r.loc k hm
      subst e1
      exact ⟨a, vs, e, .inl ⟨.of h1, fun p hp => mkT k hp q r1⟩⟩
    · cases hd
  · cases hd
def dList : Sto → List D → Option D
  | _, [.lst ds] => some (.lst ds)
  | _, [.tup ds] => some (.lst ds)
  | μ, [.loc n] => match μ[n]? with
    | some (.lst ds) => some (.lst ds)
    | _ => none
  | _, _ => none
def rList (K : PySem.W.Frag) : List V → Hp → VK → Prop := fun xs H Q => ∃ p ys, xs = [.ref p] ∧ (SqL K H p ys ∨ SqT K H p ys) ∧ ∀ l, H l = none → Q (.ref l) (upd H l (.lst ys))
theorem o_list : CallR X (.type "list") (rList X.K) := call_list_of
theorem v_list : VCall g (rList g.K) dList := fun ι B μ H xs vs d Q k r hd q => by
  unfold dList at hd
  split at hd
  · cases hd
    obtain ⟨v, e, r⟩ := repTs_one r
    obtain ⟨a, vs, e1, h1, r1⟩ := r.lst
    subst e1
    exact ⟨a, vs, e, .inl (.of h1), fun p hp => mkL k hp q r1⟩
  · cases hd
    obtain ⟨v, e, r⟩ := repTs_one r
    obtain ⟨a, vs, e1, h1, r1⟩ := r.tup
    subst e1
    exact ⟨a, vs, e, .inr h1, fun p hp => mkL k hp q r1⟩
  · obtain ⟨v, e, r⟩ := repTs_one r
    split at hd
    · rename_i ds hm
      cases hd
      obtain ⟨a, vs, e1, h1, r1⟩ := r.loc k hm
      subst e1
      exact ⟨a, vs, e, .inl (.of h1), fun p hp => mkL k hp q r1⟩
    · cases hd
  · cases hd
/-- bools alone -/
def blsD : List D → Option (List Bool)
  | [] => some []
  | .bl a :: ds => (blsD ds).map (a :: ·)
  | _ => none
theorem blsD_eq : ∀ {ds : List D} {xs : List Bool}, blsD ds = some xs → ds = xs.map D.bl
  | [], xs, h => by cases h; rfl
  | d :: ds, xs, h => by
    cases d with
    | bl a =>
      rw [blsD] at h
      cases hs : blsD ds with
      | none => rw [hs] at h; cases h
      | some ys =>
        rw [hs] at h
        cases h
        rw [blsD_eq hs]
        rfl
    | _ => cases h
theorem blsD_map : ∀ xs : List Bool, blsD (xs.map D.bl) = some xs
  | [] => rfl
  | x :: xs => by rw [List.map_cons, blsD, blsD_map xs]; rfl
theorem reps_bls_eq : ∀ {xs : List Bool} {vs : List V}, Reps g B ι H (xs.map D.bl) vs → vs = xs.map V.bl
  | [], vs, h => by simpa [Reps] using h
  | x :: xs, vs, h => by
    simp only [List.map_cons, Reps, Rep] at h
    obtain ⟨v, r, e, h1, h2⟩ := h
    rw [e, h1, reps_bls_eq h2]
    rfl
def dAll : Sto → List D → Option D
  | _, [.lst ds] => (blsD ds).map fun bs => .bl (bs.all id)
  | _, _ => none
def dAny : Sto → List D → Option D
  | _, [.lst ds] => (blsD ds).map fun bs => .bl (bs.any id)
  | _, _ => none
theorem v_all : VCall g (rAll g.K) dAll := fun ι B μ H xs vs d Q k r hd q => by
  unfold dAll at hd
  split at hd
  · rename_i ds
    cases hb : blsD ds with
    | none => rw [hb] at hd; cases hd
    | some bs =>
      rw [hb] at hd
      cases hd
      have e1 := blsD_eq hb
      subst e1
      obtain ⟨v, e, r⟩ := repTs_one r
      obtain ⟨a, us, e1, h1, r1⟩ := r.lst
      have e2 := reps_bls_eq r1
      subst e1 e2
      exact ⟨a, bs, e, .of h1, same k q (by simp [Rep])⟩
  · cases hd
theorem v_any : VCall g (rAny g.K) dAny := fun ι B μ H xs vs d Q k r hd q => by
  unfold dAny at hd
  split at hd
  · rename_i ds
    cases hb : blsD ds with
    | none => rw [hb] at hd; cases hd
    | some bs =>
      rw [hb] at hd
      cases hd
      have e1 := blsD_eq hb
      subst e1
      obtain ⟨v, e, r⟩ := repTs_one r
      obtain ⟨a, us, e1, h1, r1⟩ := r.lst
      have e2 := reps_bls_eq r1
      subst e1 e2
      exact ⟨a, bs, e, .of h1, same k q (by simp [Rep])⟩
  · cases hd
/-! sorted -/
def leS (a b : Str) : Bool := !ltS b a
theorem leS_total (a b : Str) : (leS a b || leS b a) = true := by
  unfold leS ltS
  by_cases h : b.cps.toList < a.cps.toList
  · have h2 : ¬ a.cps.toList < b.cps.toList := List.lt_asymm h
    simp [h, h2]
  · simp [h]
theorem leS_trans (a b c : Str) (h1 : leS a b = true) (h2 : leS b c = true) : leS a c = true := by
  unfold leS ltS at *
  simp only [Bool.not_eq_true', decide_eq_false_iff_not, List.not_lt] at *
  exact List.le_trans h1 h2
theorem leS_anti {a b : Str} (h1 : leS a b = true) (h2 : leS b a = true) : a = b := by
  unfold leS ltS at *
  simp only [Bool.not_eq_true', decide_eq_false_iff_not, List.not_lt] at *
  have := List.le_antisymm h1 h2
  cases a; cases b
  congr
  exact Array.ext' this
def sortS (xs : List Str) : List Str := xs.mergeSort leS
theorem rising_pw : ∀ (p : Str) (l : List Str), risingS p l = true → (p :: l).Pairwise (fun a b => leS a b = true)
  | p, [], _ => by simp
  | p, x :: r, h => by
    unfold risingS at h
    rw [Bool.and_eq_true, ltCps_eq] at h
    have ih := rising_pw x r h.2
    refine List.pairwise_cons.mpr ⟨fun y hy => ?_, ih⟩
    have hpx : leS p x = true := h.1
    rcases List.mem_cons.mp hy with rfl | hy
    · exact hpx
    · exact leS_trans _ _ _ hpx ((List.pairwise_cons.mp ih).1 y hy)
theorem sorted_is {xs ys : List Str} (p : ys.Perm xs) (s : sortedS ys = true) : ys = sortS xs := by
  refine List.Perm.eq_of_pairwise (le := fun a b => leS a b = true) (fun a b _ _ => leS_anti) ?_ (List.pairwise_mergeSort leS_trans leS_total xs) (p.trans (List.mergeSort_perm xs leS).symm)
  cases ys with
  | nil => simp
  | cons y ys => exact rising_pw y ys s
def dSorted : Sto → List D → Option D
  | _, [.lst ds] => match strsD ds with
    | some xs => if xs.length < 64 then some (.lst ((sortS xs).map .str)) else none
    | _ => none
  | μ, [.loc n] => match μ[n]? with
    | some (.lst ds) => match strsD ds with
      | some xs => if xs.length < 64 then some (.lst ((sortS xs).map .str)) else none
      | _ => none
    | _ => none
  | _, _ => none
theorem v_sorted : VCall g (rSortedS g.K) dSorted := fun ι B μ H xs vs d Q k r hd q => by
  unfold dSorted at hd
  split at hd
  · split at hd
    · rename_i ds _ xs hs
      split at hd
      · rename_i hl
        cases hd
        have e1 := strsD_eq hs
        subst e1
        obtain ⟨v, e, r⟩ := repTs_one r
        obtain ⟨a, us, e1, h1, r1⟩ := r.lst
        have e2 := reps_strs_eq r1
        subst e1 e2
        refine ⟨a, xs, e, .of h1, hl, fun ys p hp hs hn => mkL k hn q ?_⟩
        rw [sorted_is hp hs]
        exact reps_strs
      · cases hd
    · cases hd
  · split at hd
    · rename_i ds hm
      split at hd
      · rename_i xs hs
        split at hd
        · rename_i hl
          cases hd
          have e1 := strsD_eq hs
          subst e1
          obtain ⟨v, e, r⟩ := repTs_one r
          obtain ⟨a, us, e1, h1, r1⟩ := r.loc k hm
          have e2 := reps_strs_eq r1
          subst e1 e2
          refine ⟨a, xs, e, .of h1, hl, fun ys p hp hs hn => mkL k hn q ?_⟩
          rw [sorted_is hp hs]
          exact reps_strs
        · cases hd
      · cases hd
    · cases hd
  · cases hd

/-! methods of texts and tuples -/
def mM1 (op : Sto → D → D → Option D) (a b : Ex D) : Ex D := fun ρ μ => (a ρ μ).bind fun x μ1 => match x with
  | .str s => (b ρ μ1).bind fun y μ2 => opt (op μ2 (.str s) y) μ2
  | _ => .er
def dSplit : Sto → D → D → Option D
  | _, .str a, .str b => if b.length ≠ 0 ∧ a.length ≤ big then some (.lst ((Txt.split a b).map .str)) else none
  | _, _, _ => none
theorem e_split {o a : Expr} {mo ma : Ex D} {apos pos : Pos} (ho : PE X o (sE g W mo)) (ha : PE X a (sE g W ma)) (hs : starEach [a] X.env = [(false, eval a X.env)] := by rfl) (hbase : attributeBase o "split" X.env (eval o X.env) = eval o X.env := by rfl) (hline : (apos.endLine == pos.line) = true := by rfl) :
    PE X (.Call (.Attribute o "split" apos) [a] [] pos) (sE g W (mM1 dSplit mo ma)) := imE (pe_split ho ha hs hbase hline) fun σ H Q q => by
  obtain ⟨e, ι, B, O, ρ, μ, b1, p⟩ := q
  refine ⟨e, ι, B, O, ρ, μ, b1, (Post.bind (R := RD g) p).imp fun vx H1 ⟨x, ι1, B1, μ1, x1, b1, r1, p1⟩ => ?_⟩
  cases x with
  | str s =>
    have ex := (RepT.of r1).str
    refine ⟨⟨s, ex⟩, e, ι1, B1, O, ρ, μ1, b1, (Post.bind (R := RD g) p1).imp fun vy H2 ⟨y, ι2, B2, μ2, x2, b2, r2, p2⟩ => ?_⟩
    obtain ⟨d, hd, q⟩ := p2.opt b2
    cases y with
    | str b =>
      simp only [dSplit] at hd
      split at hd
      · rename_i hz
        cases hd
        refine ⟨s, _, ex, by rw [(RepT.of r2).str], beq_eq_false_iff_ne.mpr hz.1, ?_, fun p hp => mkL b2.sk hp q reps_strs⟩
        have := hz.2
        unfold big at this
        rw [sizeLine_eq]
        omega
      · cases hd
    | _ => cases hd
  | _ => exact p1.elim
end
end MP

set_option Elab.async false
set_option linter.all false
set_option maxRecDepth 100000
set_option maxHeartbeats 4000000
/-! the store written; targets; comprehensions; sources -/
namespace MP
open PySem PySem.Spec PyProof.Rows L2
section
variable {g : G} {W : WX} {X : Cx} {ι : List Addr} {B : Addr → Prop} {μ : Sto} {H : Hp}
theorem nodup_at {ι : List Addr} (h : ι.Nodup) {i j : Nat} {a : Addr} (h1 : ι[i]? = some a) (h2 : ι[j]? = some a) : i = j := by
  obtain ⟨l1, e1⟩ := List.getElem?_eq_some_iff.mp h1
  obtain ⟨l2, e2⟩ := List.getElem?_eq_some_iff.mp h2
  exact (List.getElem_inj h).mp (e1.trans e2.symm)
theorem Sk.put (k : Sk g ι B μ H) {n : Nat} {a : Addr} {vs vs' : List V} {ds' : List D} (h1 : ι[n]? = some a) (hH : H a = some (.lst vs)) (r : Reps g B ι H ds' vs') :
    Sk g ι B (μ.set n (.lst ds')) (upd H a (.lst vs')) ∧ Ext ι B H ι B (upd H a (.lst vs')) := by
  have ha : a ∈ ι := List.mem_of_getElem? h1
  have x : Ext ι B H ι B (upd H a (.lst vs')) := ⟨⟨[], by simp⟩, fun _ h => .inl h, fun _ h => h, fun _ h => .inl h, fun b o h n => by
    by_cases e : b = a
    · subst e
      rw [hH] at h
      cases h
      exact .inr ⟨ha, trivial⟩
    · exact .inl (by rw [upd_ne e]; exact h), fun b h => by
    by_cases e : b = a
    · rw [e, upd_same] at h; cases h
    · rw [upd_ne e] at h; exact h⟩
  refine ⟨⟨by rw [List.length_set]; exact k.len, k.nd, k.inB, fun b hb => ?_, fun m ob b e1 e2 => ?_, TabsN_mut k.tabs fun b u h m => ?_⟩, x⟩
  · by_cases e : b = a
    · rw [e, upd_same]; simp
    · rw [upd_ne e]; exact k.dom b hb
  · by_cases e : m = n
    · subst e
      rw [h1] at e2
      cases e2
      rw [List.getElem?_set] at e1
      simp only [if_true] at e1
      split at e1
      · cases e1
        exact ⟨vs', upd_same, r.step (x.two k.inB)⟩
      · cases e1
    · rw [List.getElem?_set_ne (Ne.symm e)] at e1
      have ne : b ≠ a := fun z => e (nodup_at k.nd (by rw [e2, z]) h1)
      exact RepO.step (x.two k.inB) ob (k.obs m ob b e1 e2) fun u h => by rw [upd_ne ne]; exact h
  · by_cases e : b = a
    · subst e; rw [hH] at h; cases h; exact absurd trivial m
    · rw [upd_ne e]; exact h
theorem Sk.alloc (k : Sk g ι B μ H) {p : Addr} {vs : List V} {ds : List D} (hp : H p = none) (r : Reps g B ι H ds vs) :
    Sk g (ι ++ [p]) (bar B p) (μ ++ [.lst ds]) (upd H p (.lst vs)) ∧ Ext ι B H (ι ++ [p]) (bar B p) (upd H p (.lst vs)) := by
  have x0 : Ext ι B H ι B (upd H p (.lst vs)) := Ext.new k.dom hp
  have x : Ext ι B H (ι ++ [p]) (bar B p) (upd H p (.lst vs)) := ⟨⟨[p], rfl⟩, fun a h => (List.mem_append.mp h).imp id fun z => by rw [List.mem_singleton.mp z]; exact hp, fun a h => .inl h, fun a h => h.elim .inl fun z => .inr (by rw [z]; exact hp), fun a o h n => .inl (by rw [upd_ne (ne_of_none h hp)]; exact h), x0.dom⟩
  have k0 := k.new (o := .lst vs) hp
  refine ⟨⟨by rw [List.length_append, List.length_append, k.len]; rfl, ?_, fun a h => ?_, fun a h => ?_, fun n ob a h1 h2 => ?_, k0.tabs⟩, x⟩
  · refine List.nodup_append.mpr ⟨k.nd, by simp, fun a ha b hb => ?_⟩
    rw [List.mem_singleton.mp hb]
    intro z
    rw [z] at ha
    exact k.dom p (k.inB p ha) hp
  · rcases List.mem_append.mp h with h | h
    · exact .inl (k.inB a h)
    · exact .inr (List.mem_singleton.mp h)
  · rcases h with h | h
    · exact k0.dom a h
    · rw [h, upd_same]; simp
  · by_cases e : n < μ.length
    · rw [List.getElem?_append_left e] at h1
      rw [List.getElem?_append_left (by rw [k.len]; exact e)] at h2
      exact RepO.step (x.two k.inB) ob (k.obs n ob a h1 h2) fun u h => by rw [upd_ne (ne_of_none h hp)]; exact h
    · have e2 : n = μ.length := by
        have := (List.getElem?_eq_some_iff.mp h1).1
        rw [List.length_append, List.length_singleton] at this
        omega
      rw [List.getElem?_append_right (by omega), e2, Nat.sub_self] at h1
      rw [List.getElem?_append_right (by rw [k.len]; omega), e2, k.len, Nat.sub_self] at h2
      cases h1
      cases h2
      exact ⟨vs, upd_same, r.step (x.two k.inB)⟩
/-- a display that will be changed in place -/
def mLoc (as : Ex (List D)) : Ex D := fun ρ μ => (as ρ μ).bind fun ds μ1 => if ds.length ≤ big then .ok (.loc μ1.length) (μ1 ++ [.lst ds]) else .er
theorem e_loc {as : List Expr} {ms : Ex (List D)} {pos} (h : PA X as (sD g W ms)) : PE X (.List as pos) (sE g W (mLoc ms)) := imE (pe_lst h) fun σ H Q q => by
  obtain ⟨e, ι, B, O, ρ, μ, b1, p⟩ := q
  refine ⟨e, ι, B, O, ρ, μ, b1, (Post.bind (R := RDs g) p).imp fun vs H1 ⟨ds, ι1, B1, μ1, x1, b1, r1, p1⟩ => ?_⟩
  split at p1
  · rename_i hl
    refine ⟨by rw [← r1.as.len]; exact big_le hl, fun a ha => ?_⟩
    obtain ⟨k, x⟩ := b1.sk.alloc ha r1
    refine p1 _ _ _ _ x (b1.step x k) ?_
    simp only [Rep]
    exact ⟨a, by rw [List.getElem?_append_right (by rw [b1.sk.len]; omega), b1.sk.len, Nat.sub_self]; rfl, rfl⟩
  · exact p1.elim
/-- x.append(y) -/
def mAppend (a b : Ex D) : Ex D := fun ρ μ => (a ρ μ).bind fun x μ1 => (b ρ μ1).bind fun y μ2 => match x with
  | .loc n => match μ2[n]? with
    | some (.lst ds) => if ds.length < big then .ok .non (μ2.set n (.lst (ds ++ [y]))) else .er
    | _ => .er
  | _ => .er
theorem isl_loc {n : Nat} {v : V} {K : PySem.W.Frag} (k : Sk g ι B μ H) (r : Rep g B ι H (.loc n) v) {ds : List D} (h : μ[n]? = some (.lst ds)) : ∃ a vs, v = .ref a ∧ ι[n]? = some a ∧ H a = some (.lst vs) ∧ Reps g B ι H ds vs := by
  simp only [Rep] at r
  obtain ⟨a, h1, e⟩ := r
  obtain ⟨vs, h2, h3⟩ := k.obs n _ a h h1
  exact ⟨a, vs, e, h1, h2, h3⟩
/-- x is a list of the store, whatever its items -/
def mIsLoc (a : Ex D) : Ex D := fun ρ μ => (a ρ μ).bind fun x μ1 => match x with
  | .loc n => match μ1[n]? with
    | some (.lst _) => .ok x μ1
    | _ => .er
  | _ => .er
theorem e_append {o a : Expr} {mo ma : Ex D} {apos pos : Pos} (hK : X.K = g.K) (ho : PE X o (sE g W mo)) (ha : PE X a (sE g W ma)) (hs : starEach [a] X.env = (false, eval a X.env) :: starEach [] X.env := by rfl)
    (hb : attributeBase o "append" X.env (eval o X.env) = eval o X.env := by rfl)
    (hfew : ((backTo pos (starEach [a] X.env)).all (fun x => !x.1) && (backToKw pos (keywordEach [] X.env)).all (fun x => x.1.isSome)
      && decide ([a].length + ([] : List Keyword).length + (if ([] : List Keyword).isEmpty then 0 else 1) < 30)) = true := by rfl)
    (hline : (apos.endLine == pos.line) = true := by rfl) (hplain : (backTo pos (starEach [] X.env)).any (·.1) = false := by rfl) :
    PE X (.Call (.Attribute o "append" apos) [a] [] pos) (sE g W (mAppend (mIsLoc mo) ma)) :=
  imE (pe_bm PySem.F.plainAttrs_list PySem.F.slot_list_append PySem.F.type_list_append mt_append ho (pa_cons ha pa_nil hs) hb hfew hline hs hplain) fun σ H Q q => by
    obtain ⟨e, ι, B, O, ρ, μ, b1, p⟩ := q
    refine ⟨e, ι, B, O, ρ, μ, b1, ?_⟩
    have p2 : Post g W (RD g) e O ρ σ ι B H (mo ρ μ) (fun v H1 => ∃ x ι1 B1 μ1, Ext ι B H ι1 B1 H1 ∧ BR g e ι1 B1 O ρ μ1 σ H1 ∧ RD g B1 ι1 H1 x v ∧ Post g W (RD g) e O ρ σ ι1 B1 H1 ((match x with
        | .loc n => match μ1[n]? with
          | some (.lst _) => Rs.ok x μ1
          | _ => .er
        | _ => .er).bind fun x μ1 => (ma ρ μ1).bind fun y μ2 => match x with
          | .loc n => match μ2[n]? with
            | some (.lst ds) => if ds.length < big then .ok .non (μ2.set n (.lst (ds ++ [y]))) else .er
            | _ => .er
          | _ => .er) Q) := by
      refine Post.bind (R := RD g) ?_
      unfold mAppend mIsLoc at p
      cases hm : mo ρ μ with
      | ok d μ' => rw [hm] at p; exact p
      | ex d μ' => rw [hm] at p; exact p
      | er => rw [hm] at p; exact p
    refine p2.imp fun vx H1 ⟨x, ι1, B1, μ1, x1, b1, r1, p1⟩ => ?_
    cases x with
    | loc n =>
      simp only at p1
      split at p1
      · rename_i ds0 hm0
        obtain ⟨a0, vs0, e0, _, h0, _⟩ := isl_loc (K := g.K) b1.sk r1 hm0
        refine ⟨by rw [e0]; exact .inl ⟨rfl, vs0, .of h0⟩, ?_⟩
        simp only [Rs.bind] at p1
        refine ⟨e, ι1, B1, O, ρ, μ1, b1, (Post.bind (R := RD g) p1).imp fun vy H2 ⟨y, ι2, B2, μ2, x2, b2, r2, p2⟩ => ?_⟩
        have r1' := r1.step (x2.two b1.sk.inB)
        split at p2
        · rename_i ds hm
          split at p2
          · rename_i hl
            obtain ⟨a1, vs1, e1, h1, h2, h3⟩ := isl_loc (K := g.K) b2.sk r1' hm
            obtain ⟨k, x⟩ := b2.sk.put h1 h2 (reps_snoc h3 r2)
            exact ⟨a1, vs1, vy, e1, rfl, h2, by rw [← h3.as.len]; exact big_line (Nat.le_of_lt hl), p2 _ _ _ _ x (b2.step x k) (by simp [Rep])⟩
          · exact p2.elim
        · exact p2.elim
      · exact p1.elim
    | _ => exact p1.elim
end

/-! ### targets of assignments -/
abbrev Ug := D → Env' → Sto → Option (Env' × Sto)
abbrev Ugs := List D → Env' → Sto → Option (Env' × Sto)
section
variable (g : G)
def UPost (e : En) (ι : List Addr) (B : Addr → Prop) (O : Nat → Option Addr) (H : Hp) (r : Option (Env' × Sto)) (Q : L2.St → Hp → Prop) : Prop := match r with
  | some (ρ', μ') => ∀ ι' B' σ' H', Ext ι B H ι' B' H' → BR g e ι' B' O ρ' μ' σ' H' → Q σ' H'
  | none => False
def sU (t : Ug) : TG := fun v σ H Q => ∃ e ι B O ρ μ d, BR g e ι B O ρ μ σ H ∧ Rep g B ι H d v ∧ UPost g e ι B O H (t d ρ μ) Q
def sUs (t : Ugs) : TGs := fun vs σ H Q => ∃ e ι B O ρ μ ds, BR g e ι B O ρ μ σ H ∧ Reps g B ι H ds vs ∧ UPost g e ι B O H (t ds ρ μ) Q
end
def uName (i : Nat) : Ug := fun d ρ μ => some (ρ.set i (.val d), μ)
def uNil : Ugs := fun ds ρ μ => match ds with
  | [] => some (ρ, μ)
  | _ => none
def uCons (t : Ug) (u : Ugs) : Ugs := fun ds ρ μ => match ds with
  | [] => none
  | d :: r => (t d ρ μ).bind fun p => u r p.1 p.2
def uTup (n : Nat) (t : Ugs) : Ug := fun d ρ μ => match d with
  | .tup ds => if ds.length = n then t ds ρ μ else none
  | _ => none
def uSub (mo mi : Ex D) : Ug := fun d ρ μ => match mo ρ μ with
  | .ok (.loc n) μ1 => match mi ρ μ1 with
    | .ok (.int k) μ2 => match μ2[n]? with
      | some (.lst ds) => match ixN ds.length k with
        | some j => some (ρ, μ2.set n (.lst (ds.set j d)))
        | none => none
      | _ => none
    | _ => none
  | _ => none
section
variable {g : G} {W : WX} {X : Cx}
theorem UPost.later {e : En} {ι ι1 : List Addr} {B B1 : Addr → Prop} {O : Nat → Option Addr} {H H1 : Hp} {r : Option (Env' × Sto)} {Q : L2.St → Hp → Prop} (x : Ext ι B H ι1 B1 H1) (p : UPost g e ι B O H r Q) : UPost g e ι1 B1 O H1 r Q := by
  cases r with
  | none => exact p
  | some r => exact fun ι' B' σ' H' y => p ι' B' σ' H' (x.trans y)
theorem u_name {i : Nat} {a : Expr} (h : PG X a (gName i)) : PG X a (sU g (uName i)) := imG h fun v σ H Q q => by
  obtain ⟨e, ι, B, O, ρ, μ, d, b, r, p⟩ := q
  exact p ι B _ H (.refl _ _ _) (b.set i (.inl r))
theorem us_nil : PGs X [] (sUs g uNil) := imGs pgs_nil fun vs σ H Q q => by
  obtain ⟨e, ι, B, O, ρ, μ, ds, b, r, p⟩ := q
  cases ds with
  | nil =>
    simp only [Reps] at r
    exact ⟨r, p ι B σ H (.refl _ _ _) b⟩
  | cons d ds => exact p.elim
theorem us_cons {a : Expr} {as : List Expr} {t : Ug} {u : Ugs} (h1 : PG X a (sU g t)) (h2 : PGs X as (sUs g u))
    (hs : (assignEach (a :: as) X.env).map (·.2) = assign a X.env :: (assignEach as X.env).map (·.2) := by rfl) : PGs X (a :: as) (sUs g (uCons t u)) := imGs (pgs_cons h1 h2 hs) fun vs σ H Q q => by
  obtain ⟨e, ι, B, O, ρ, μ, ds, b, r, p⟩ := q
  cases ds with
  | nil => exact p.elim
  | cons d ds =>
    simp only [Reps] at r
    obtain ⟨v, vr, e1, r1, r2⟩ := r
    refine ⟨v, vr, e1, e, ι, B, O, ρ, μ, d, b, r1, ?_⟩
    unfold uCons at p
    simp only at p
    cases ht : t d ρ μ with
    | some q =>
      obtain ⟨ρ1, μ1⟩ := q
      rw [ht] at p
      exact fun ι1 B1 σ1 H1 x1 b1 => ⟨e, ι1, B1, O, ρ1, μ1, ds, b1, r2.step (x1.two b.sk.inB), UPost.later x1 p⟩
    | none => rw [ht] at p; exact p.elim
theorem u_tup (hK : X.K = g.K) {as : List Expr} {k n : Nat} {t : Ugs} {pos : Pos} (hc : X.calm = true) (h : PGs X as (sUs g t))
    (hn : (assignEach as X.env).length = n := by rfl) (hst : (assignEach as X.env).findIdx? (·.1) = none := by rfl) : PG X (.Tuple as k pos) (sU g (uTup n t)) := imG (pg_tup hc h hn hst) fun v σ H Q q => by
  obtain ⟨e, ι, B, O, ρ, μ, d, b, r, p⟩ := q
  unfold uTup at p
  cases d with
  | tup ds =>
    simp only at p
    split at p
    · rename_i hl
      simp only [Rep] at r
      obtain ⟨a, vs, e1, h1, h2⟩ := r
      exact ⟨a, vs, e1, by rw [hK]; exact h1, by rw [← h2.as.len, hl], e, ι, B, O, ρ, μ, ds, b, h2, p⟩
    · exact p.elim
  | _ => exact p.elim
theorem u_sub {o i : Expr} {mo mi : Ex D} {pos : Pos} (ho : PE X o (sE g W mo)) (hi : PE X i (sE g W mi))
    (ha : ∀ v, assign (.Subscript o i pos) X.env v = (do
      let ov ← holding [v] (eval o X.env)
      let iv ← holding [v, ov] (eval i X.env)
      standAt pos
      holding [v, ov, iv] (setItem ov iv v)
      release [v, ov, iv] []) := by intro _; rfl) : PG X (.Subscript o i pos) (sU g (uSub mo mi)) := imG (pg_sub ho hi set_list ha) fun v σ H Q q => by
  obtain ⟨e, ι, B, O, ρ, μ, d, b, r, p⟩ := q
  refine ⟨e, ι, B, O, ρ, μ, b, ?_⟩
  unfold uSub at p
  cases hm : mo ρ μ with
  | ex x μ' => rw [hm] at p; exact p.elim
  | er => rw [hm] at p; exact p.elim
  | ok dx μ1 =>
    rw [hm] at p
    intro vx ι1 B1 H1 x1 b1 r1
    cases dx with
    | loc n =>
      simp only at p
      refine ⟨e, ι1, B1, O, ρ, μ1, b1, ?_⟩
      cases hm2 : mi ρ μ1 with
      | ex x μ' => rw [hm2] at p; exact p.elim
      | er => rw [hm2] at p; exact p.elim
      | ok dy μ2 =>
        rw [hm2] at p
        intro vy ι2 B2 H2 x2 b2 r2
        cases dy with
        | int k =>
          simp only at p
          split at p
          · rename_i ds hds
            split at p
            · rename_i j hj
              have x12 := x1.trans x2
              obtain ⟨a1, vs1, e1, h1, h2, h3⟩ := isl_loc (K := g.K) b2.sk (r1.step (x2.two b1.sk.inB)) hds
              have rset : Reps g B2 ι2 H2 (ds.set j d) (vs1.set j v) := by
                have go : ∀ (ds : List D) (vs : List V) (j : Nat), Reps g B2 ι2 H2 ds vs → Reps g B2 ι2 H2 (ds.set j d) (vs.set j v) := fun ds => by
                  induction ds with
                  | nil => intro vs j h; simp only [Reps] at h; subst h; simp [Reps]
                  | cons y ys ih =>
                    intro vs j h
                    simp only [Reps] at h
                    obtain ⟨w, r', e', g1, g2⟩ := h
                    subst e'
                    cases j with
                    | zero => simp only [List.set_cons_zero, Reps]; exact ⟨v, r', rfl, r.step (x12.two b.sk.inB), g2⟩
                    | succ j => simp only [List.set_cons_succ, Reps]; exact ⟨w, _, rfl, g1, ih r' j g2⟩
                exact go ds vs1 j h3
              obtain ⟨kk, x⟩ := b2.sk.put h1 h2 rset
              exact ⟨a1, vs1, k, j, e1, (RepT.of r2).int, h2, by rw [← h3.as.len]; exact hj, p ι2 B2 σ _ (x12.trans x) (b2.step x kk)⟩
            · exact p.elim
          · exact p.elim
        | _ => exact p.elim
    | _ => exact p.elim
def mAsg (m : Ex D) (t : Ug) : Sm := fun ρ μ => (m ρ μ).s ρ fun x μ1 => match t x ρ μ1 with
  | some (ρ', μ') => .nx ρ' μ'
  | none => .er
theorem s_asg {tg a : Expr} {m : Ex D} {t : Ug} {pos : Pos} (he : PE X a (sE g W m)) (hg : PG X tg (sU g t)) (hs : swapsWithSole [tg] a pos.line X.env = pure false := by rfl) (hw : swappedStores [tg] a X.env = pure none := by rfl)
    (h1 : (assignEach [tg] X.env).map (·.2) = [assign tg X.env] := by rfl) : PS X (.Assign [tg] a pos) (sS g W (mAsg m t)) := imS (ps_asg he hg hs hw h1) fun D' σ H q => by
  obtain ⟨e, ι, B, O, ρ, μ, br, p⟩ := q
  refine ⟨e, ι, B, O, ρ, μ, br, (SPost.bind (R := RD g) br p).imp fun v H1 ⟨x, ι1, B1, μ1, x1, b1, r1, p1⟩ => ?_⟩
  refine ⟨e, ι1, B1, O, ρ, μ1, x, b1, r1, ?_⟩
  cases ht : t x ρ μ1 with
  | none => rw [ht] at p1; exact p1.elim
  | some q =>
    obtain ⟨ρ', μ'⟩ := q
    rw [ht] at p1
    exact fun ι' B' σ' H' y b' => p1 ι' B' O σ' H' (y.two b1.sk.inB) b'
def mPar (i j : Nat) (as : Ex (List D)) : Sm := fun ρ μ => (as ρ μ).s ρ fun ds μ1 => match ds with
  | [x, y] => .nx ((ρ.set i (.val x)).set j (.val y)) μ1
  | _ => .er
theorem s_par {i j : Nat} {x y : Str} {a b : Expr} {ms : Ex (List D)} {px py pt : Pos} {kt k2 pt2} {pos : Pos} (hc : X.calm = true) (hN : X.N.Nodup) (hi : X.N[i]? = some x) (hj : X.N[j]? = some y) (hij : i ≠ j)
    (hx : X.env.scope.names.lookup x = some .local) (hy : X.env.scope.names.lookup y = some .local) (ha : PA X [a, b] (sD g W ms))
    (hw : swappedStores [.Tuple [.Name x px, .Name y py] kt pt] (.Tuple [a, b] k2 pt2) X.env = pure (some [x, y]))
    (hs : swapsWithSole [.Tuple [.Name x px, .Name y py] kt pt] (.Tuple [a, b] k2 pt2) pos.line X.env = pure false := by rfl) :
    PS X (.Assign [.Tuple [.Name x px, .Name y py] kt pt] (.Tuple [a, b] k2 pt2) pos) (sS g W (mPar i j ms)) := imS (ps_par hc hN hi hj hij hx hy ha hw hs) fun D' σ H q => by
  obtain ⟨e, ι, B, O, ρ, μ, br, p⟩ := q
  refine ⟨e, ι, B, O, ρ, μ, br, (SPost.bind (R := RDs g) br p).imp fun vs H1 ⟨ds, ι1, B1, μ1, x1, b1, r1, p1⟩ => ?_⟩
  match ds, r1, p1 with
  | [], _, p1 => exact p1.elim
  | [_], _, p1 => exact p1.elim
  | _ :: _ :: _ :: _, _, p1 => exact p1.elim
  | [x, y], r1, p1 =>
    simp only [Reps] at r1
    obtain ⟨v, r, e1, h1, u, r', e2, h2, e3⟩ := r1
    subst e3 e2
    exact ⟨v, u, e1, p1 ι1 B1 O _ H1 (.refl _ _ _) ((b1.set i (.inl h1)).set j (.inl h2))⟩
end
end MP

set_option Elab.async false
set_option linter.all false
set_option maxRecDepth 100000
set_option maxHeartbeats 4000000
/-! comprehensions, sources, names of the module, calls by name -/
namespace MP
open PySem PySem.Spec PyProof.Rows L2
def mTrue : Ex Bool := fun _ μ => .ok true μ
section
variable {g : G} {W : WX} {X : Cx} {tg : Expr}
theorem pts0 : PTs X [] (sC g W mTrue) := ⟨fun p s σ H Q I q => pts_nil.run p s σ H Q I (by
  obtain ⟨e, ι, B, O, ρ, μ, b1, p⟩ := q
  exact p true ι B H (.refl _ _ _) b1 rfl)⟩
theorem pts1 {c : Expr} {m : Ex Bool} (h : PT X c (sC g W m)) : PTs X [c] (sC g W m) := pts_one h
theorem takes0 {X : Cx} : Takes X W0 := fun u s' ⟨_, _, _, _, _, _, _, _, _, _, _, _, _, _, _, _, w⟩ => w.elim
theorem e_lc {elt iter : Expr} {ifs : List Expr} {scope : Scope} {own : List (Str × Nat)} {pos : Pos} {src : Ex (List D)} {is : List Nat} {t : Tg} {c : Ex Bool} {m : Ex D} (hc : X.calm = true) (hN : X.N.Nodup) (ok : blkC X.N X.env.scope scope own = true) (hsub : ∀ i ∈ is, i ∈ own.map (·.2)) (hi : PI X tg iter (sI g W src))
    (hg : ∀ (s : Shared) (H : Hp) (C : Addr) (cl : List (Str × Addr)) (fp : List Addr), PG (X.blk s H scope (compEnvC scope cl C X.env) fp) tg (sG g is t)) (ht : ∀ (s : Shared) (H : Hp) (C : Addr) (cl : List (Str × Addr)) (fp : List Addr), PTs (X.blk s H scope (compEnvC scope cl C X.env) fp) ifs (sC g W0 c))
    (he : ∀ (s : Shared) (H : Hp) (C : Addr) (cl : List (Str × Addr)) (fp : List Addr), PE (X.blk s H scope (compEnvC scope cl C X.env) fp) elt (sE g W0 m)) (hs : ∀ x, foldedSetIterable iter X.env x = pure x := by intro _; rfl) :
    PE X (.ListComp elt [⟨tg, iter, ifs, 0⟩] scope pos) (sE g W (mComp src (own.map (·.2)) t c m)) :=
  imE (pe_lc hc hN hi (blkOk_by ok) hg ht he hs) (tlc_of hsub)
theorem s_setLc {i : Nat} {y : Str} {py : Pos} {elt iter : Expr} {ifs : List Expr} {scope : Scope} {own : List (Str × Nat)} {pos spos : Pos} {src : Ex (List D)} {is : List Nat} {t : Tg} {c : Ex Bool} {m : Ex D} (hc : X.calm = true) (hN : X.N.Nodup) (hy : X.N[i]? = some y) (hyl : X.env.scope.names.lookup y = some .local)
    (hsw : swapsWith (.ListComp elt [⟨tg, iter, ifs, 0⟩] scope pos) (some (.Name y py)) spos.line X.env = pure true) (ok : blkC X.N X.env.scope scope own = true) (hsub : ∀ i ∈ is, i ∈ own.map (·.2)) (hi : PI X tg iter (sI g W src))
    (hg : ∀ (s : Shared) (H : Hp) (C : Addr) (cl : List (Str × Addr)) (fp : List Addr), PG (X.blk s H scope (compEnvC scope cl C X.env) fp) tg (sG g is t)) (ht : ∀ (s : Shared) (H : Hp) (C : Addr) (cl : List (Str × Addr)) (fp : List Addr), PTs (X.blk s H scope (compEnvC scope cl C X.env) fp) ifs (sC g W0 c))
    (he : ∀ (s : Shared) (H : Hp) (C : Addr) (cl : List (Str × Addr)) (fp : List Addr), PE (X.blk s H scope (compEnvC scope cl C X.env) fp) elt (sE g W0 m)) (hs : ∀ x, foldedSetIterable iter X.env x = pure x := by intro _; rfl) :
    PS X (.Assign [.Name y py] (.ListComp elt [⟨tg, iter, ifs, 0⟩] scope pos) spos) (sS g W (mSet i (mComp src (own.map (·.2)) t c m))) :=
  imS (ps_setLc hc hN hy hyl hsw hi (blkOk_by ok) hg ht he hs) fun D' σ H q => tlc_of hsub σ H _ (asg_set D' σ H q)

/-! texts walked -/
def signsD (x : Str) : List D := x.cps.toList.map fun c => .str ⟨#[c]⟩
def mItS (a : Ex D) : Ex (List D) := fun ρ μ => (a ρ μ).bind fun d μ1 => match d with
  | .str x => .ok (signsD x) μ1
  | _ => .er
theorem itOk_str {x : Str} {ι : List Addr} {B : Addr → Prop} {H : Hp} : ItOk g (Its x) (signsD x) ι B H := by
  intro ι' B' μ' H' y k
  have hl : (signsD x).length = x.cps.size := by unfold signsD; rw [List.length_map]; exact Array.length_toList
  refine ⟨fun i d hd => ?_, show x.cps.size ≤ _ by rw [hl]; exact Nat.le_refl _⟩
  unfold signsD at hd
  rw [List.getElem?_map] at hd
  cases hc : x.cps.toList[i]? with
  | none => rw [hc] at hd; cases hd
  | some c =>
    rw [hc] at hd
    cases hd
    have hc' : x.cps[i]? = some c := by simpa using hc
    refine ⟨(Array.getElem?_eq_some_iff.mp hc').1, fun v H'' hy => ?_⟩
    obtain ⟨e1, c', e2, e3⟩ := hy
    subst e1 e3
    rw [hc'] at e2
    cases e2
    exact ⟨.refl _ _ _, k, by simp [Rep]⟩
theorem i_str {a : Expr} {m : Ex D} (h : PE X a (sE g W m)) : PI X tg a (sI g W (mItS m)) := imI (pi_str h) fun σ H R q => by
  obtain ⟨e, ι, B, O, ρ, μ, b, p⟩ := q
  refine ⟨e, ι, B, O, ρ, μ, b, ?_⟩
  unfold mItS at p
  cases hm : m ρ μ with
  | ok d μ' =>
    rw [hm] at p
    intro v ι' B' H' x b' r
    cases d with
    | str y => exact ⟨y, (RepT.of r).str, p _ ι' B' H' x b' itOk_str⟩
    | _ => exact p.elim
  | ex d μ' => rw [hm] at p; exact p
  | er => rw [hm] at p; exact p
/-! zip -/
def zipD (xs ys : List D) : List D := List.zipWith (fun x y => D.tup [x, y]) xs ys
def mZip (as : Ex (List D)) : Ex (List D) := fun ρ μ => (as ρ μ).bind fun xs μ1 => match xs with
  | [.lst a, .lst b] => .ok (zipD a b) μ1
  | [.tup a, .tup b] => .ok (zipD a b) μ1
  | _ => .er
theorem zipD_get {xs ys : List D} {i : Nat} {d : D} (h : (zipD xs ys)[i]? = some d) : ∃ x y, xs[i]? = some x ∧ ys[i]? = some y ∧ d = .tup [x, y] := by
  unfold zipD at h
  rw [List.getElem?_zipWith] at h
  cases hx : xs[i]? with
  | none => rw [hx] at h; cases h
  | some x =>
    cases hy : ys[i]? with
    | none => rw [hx, hy] at h; cases h
    | some y =>
      rw [hx, hy] at h
      cases h
      exact ⟨x, y, rfl, rfl, rfl⟩
theorem zipD_len (xs ys : List D) : xs.length ≤ (zipD xs ys).length ∨ ys.length ≤ (zipD xs ys).length := by
  unfold zipD
  rw [List.length_zipWith]
  omega
theorem itOk_zipL (hK : X.K = g.K) {ds es : List D} {vs us : List V} {a b : Addr} {ι : List Addr} {B : Addr → Prop} {H : Hp} (h : H a = some (.lst vs)) (nb : ¬ B a) (r : Reps g B ι H ds vs) (h2 : H b = some (.lst us)) (nb2 : ¬ B b) (r2 : Reps g B ι H es us) : ItOk g (Itz X.K a b) (zipD ds es) ι B H := by
  intro ι' B' μ' H' x k
  obtain ⟨q, _⟩ := x.keep h (fun _ z => by cases z) nb
  obtain ⟨q2, _⟩ := x.keep h2 (fun _ z => by cases z) nb2
  have sq : SqL X.K H' a vs := .of q
  have sq2 : SqL X.K H' b us := .of q2
  refine ⟨fun i d hd => ?_, ⟨vs, us, sq, sq2, by rw [← r.as.len, ← r2.as.len]; exact zipD_len _ _⟩⟩
  obtain ⟨x1, y1, e1, e2, e3⟩ := zipD_get hd
  obtain ⟨v, hv, rv⟩ := (r.step x).get e1
  obtain ⟨u, hu, ru⟩ := (r2.step x).get e2
  refine ⟨⟨vs, us, v, u, sq, sq2, hv, hu⟩, fun y H'' hy => ?_⟩
  obtain ⟨T, x', y', f1, hT, f2, f3, f4⟩ := hy
  have g1 := f3 vs sq
  have g2 := f4 us sq2
  rw [hv] at g1
  rw [hu] at g2
  cases g1
  cases g2
  subst f1 f2 e3
  have xx := (Ext.new (o := HO.tup [v, u]) k.dom hT).two (ι := ι') (B := B') k.inB
  refine ⟨Ext.new k.dom hT, k.new hT, ?_⟩
  simp only [Rep, Reps]
  exact ⟨T, _, rfl, .of upd_same, _, _, rfl, rv.step xx, _, _, rfl, ru.step xx, rfl⟩
theorem itOk_zipT (hK : X.K = g.K) {ds es : List D} {vs us : List V} {a b : Addr} {ι : List Addr} {B : Addr → Prop} {H : Hp} (h : SqT g.K H a vs) (r : Reps g B ι H ds vs) (h2 : SqT g.K H b us) (r2 : Reps g B ι H es us) : ItOk g (RZ.ItzT X.K a b) (zipD ds es) ι B H := by
  intro ι' B' μ' H' x k
  have sq : SqT X.K H' a vs := by rw [hK]; exact x.tup h
  have sq2 : SqT X.K H' b us := by rw [hK]; exact x.tup h2
  refine ⟨fun i d hd => ?_, ⟨vs, us, sq, sq2, by rw [← r.as.len, ← r2.as.len]; exact zipD_len _ _⟩⟩
  obtain ⟨x1, y1, e1, e2, e3⟩ := zipD_get hd
  obtain ⟨v, hv, rv⟩ := (r.step x).get e1
  obtain ⟨u, hu, ru⟩ := (r2.step x).get e2
  refine ⟨⟨vs, us, v, u, sq, sq2, hv, hu⟩, fun y H'' hy => ?_⟩
  obtain ⟨T, x', y', f1, hT, f2, f3, f4⟩ := hy
  have g1 := f3 vs sq
  have g2 := f4 us sq2
  rw [hv] at g1
  rw [hu] at g2
  cases g1
  cases g2
  subst f1 f2 e3
  have xx := (Ext.new (o := HO.tup [v, u]) k.dom hT).two (ι := ι') (B := B') k.inB
  refine ⟨Ext.new k.dom hT, k.new hT, ?_⟩
  simp only [Rep, Reps]
  exact ⟨T, _, rfl, .of upd_same, _, _, rfl, rv.step xx, _, _, rfl, ru.step xx, rfl⟩
theorem i_zip (hK : X.K = g.K) {a a2 : Expr} {ms : Ex (List D)} {elts : List Expr} {kk : Nat} {tpos p pos : Pos} (hg : Gl X "zip") (hm : X.mg "zip" = none) (ha : PA X [a, a2] (sD g W ms))
    (hs : starEach [a, a2] X.env = (false, eval a X.env) :: starEach [a2] X.env := by rfl) (hpl : (backTo pos (starEach [a2] X.env)).any (·.1) = false := by rfl) :
    PI X (.Tuple elts kk tpos) (.Call (.Name "zip" p) [a, a2] [] pos) (sI g W (mZip ms)) := imI (RZ.pi_zipA hg hm ha hs hpl) fun σ H R q => by
  obtain ⟨e, ι, B, O, ρ, μ, b, p⟩ := q
  refine ⟨e, ι, B, O, ρ, μ, b, ?_⟩
  unfold mZip at p
  cases hms : ms ρ μ with
  | ok xs μ' =>
    rw [hms] at p
    intro vs ι' B' H' x b' r
    simp only [Rs.bind] at p
    split at p
    · simp only [Reps, Rep] at r
      obtain ⟨v, r0, e1, ⟨a, vs', e2, h1, nb, h2⟩, v2, r2, e3, ⟨a2, vs2, e4, h3, nb2, h4⟩, e5⟩ := r
      subst e2 e4 e5 e3
      exact ⟨a, a2, vs', vs2, e1, .inl ⟨.of h1, .of h3, p _ ι' B' H' x b' (itOk_zipL hK h1 nb h2 h3 nb2 h4)⟩⟩
    · simp only [Reps, Rep] at r
      obtain ⟨v, r0, e1, ⟨a, vs', e2, h1, h2⟩, v2, r2, e3, ⟨a2, vs2, e4, h3, h4⟩, e5⟩ := r
      subst e2 e4 e5 e3
      exact ⟨a, a2, vs', vs2, e1, .inr ⟨by rw [hK]; exact h1, by rw [hK]; exact h3, p _ ι' B' H' x b' (itOk_zipT hK h1 h2 h3 h4)⟩⟩
    · exact p.elim
  | ex d μ' => rw [hms] at p; exact p
  | er => rw [hms] at p; exact p

/-! names of the module -/
structure GlobV (g : G) (mg : Str → Option Value) (x : Str) (d : D) : Prop where
  at_ : ∃ (u : Value) (v : V), mg x = some u ∧ RelV v u ∧ ∀ B ι H, Rep g B ι H d v
theorem e_glob {x : Str} {d : D} {pos : Pos} (hg : Gl X x) (h : GlobV g X.mg x d) (hd : (x == ("__debug__" : Str)) = false := by decide) : PE X (.Name x pos) (sE g W (mC d)) := by
  obtain ⟨u, v, hm, r, q⟩ := h.at_
  exact e_const (pe_glob hg hm r hd) q
theorem globStr {mg : Str → Option Value} {x s : Str} {t : Tok} (h : mg x = some (.str s t)) : GlobV g mg x (.str s) := ⟨_, .str s, h, ⟨t, rfl⟩, fun _ _ _ => by simp [Rep]⟩
theorem globInt {mg : Str → Option Value} {x : Str} {i : Int} {t : Tok} (h : mg x = some (.int i t)) : GlobV g mg x (.int i) := ⟨_, .int i, h, ⟨t, rfl⟩, fun _ _ _ => by simp [Rep]⟩
/-! calls by keywords -/
def pick {α : Type} (pm : List Nat) (xs : List α) : List α := pm.filterMap fun i => xs[i]?
def mAppK (n l : Nat) (pm : List Nat) (f : List D → Sto → Rs D) (as ks : Ex (List D)) : Ex D := fun ρ μ => (as ρ μ).bind fun ds μ1 => (ks ρ μ1).bind fun zs μ2 => if ds.length = n ∧ zs.length = l then f (pick pm (ds ++ zs)) μ2 else .er
structure BindsK (K : PySem.W.Frag) (fd : FuncData) (ps : List Str) (n : Nat) (ks : List Str) (pm : List Nat) : Prop where
  to : ∀ (s : Shared) (us ws : List Value), K.In s.heap → us.length = n → ws.length = ks.length → BindsTo s fd ⟨us, ks.zip ws⟩ (ps.zip (pick pm (us ++ ws)))
theorem bindsK_of {K : PySem.W.Frag} {x qual : Str} {st : Stmt} {f : Addr} {fd : FuncData} {ps ks : List Str} {n : Nat} {pm : List Nat} (F : Fun K x qual st f fd)
    (h : ∀ (kV doc pm' : Value) (an : Option Addr) (cdv ct : Value) (us ws : List Value), us.length = n → ws.length = ks.length → bindArgs (PySem.W.fnOf x qual (defArgs st) (defBody st) (defScope st) .none kV doc pm' an cdv ct) ⟨us, ks.zip ws⟩ = pure (ps.zip (pick pm (us ++ ws)))) : BindsK K fd ps n ks pm := by
  obtain ⟨oc, od, kV, doc, pm', an, cdv, ct, osl, rfl, lk, hcd⟩ := F.ex
  exact ⟨fun s us ws _ h1 h2 => BindsTo.of_eq (h kV doc pm' an cdv ct us ws h1 h2)⟩
theorem pick_vals {vs : List V} {us : List Value} (r : Vals vs us) : ∀ pm : List Nat, Vals (pick pm vs) (pick pm us)
  | [] => .nil
  | i :: pm => by
    unfold pick
    have ih := pick_vals r pm
    unfold pick at ih
    rw [List.filterMap_cons, List.filterMap_cons]
    cases hv : vs[i]? with
    | none =>
      have hu : us[i]? = none := by
        rw [List.getElem?_eq_none_iff] at hv ⊢
        rw [← r.length]; exact hv
      rw [hu]
      exact ih
    | some v =>
      obtain ⟨u, hu, ru⟩ := r.get hv
      rw [hu]
      exact .cons ru ih
theorem pick_reps {ι : List Addr} {B : Addr → Prop} {H : Hp} {ds : List D} {vs : List V} (r : Reps g B ι H ds vs) : ∀ pm : List Nat, Reps g B ι H (pick pm ds) (pick pm vs)
  | [] => by simp [pick, Reps]
  | i :: pm => by
    unfold pick
    have ih := pick_reps r pm
    unfold pick at ih
    rw [List.filterMap_cons, List.filterMap_cons]
    cases hv : ds[i]? with
    | none =>
      have hu : vs[i]? = none := by
        rw [List.getElem?_eq_none_iff] at hv ⊢
        rw [← r.as.len]; exact hv
      rw [hu]
      exact ih
    | some v =>
      obtain ⟨u, hu, ru⟩ := r.get hv
      rw [hu]
      simp only [Reps]
      exact ⟨u, _, rfl, ru, ih⟩
theorem run_K {k n : Nat} {f : Addr} {fd : FuncData} {ps ks : List Str} {sp : Sp} {E : L2.St → XK} {pm : List Nat} {pins : List (Addr × Obj)} {σ : L2.St} {H : Hp} {s : Shared} {Q : VK} {us ws : List Value} {vs zs : List V} (F : FnOk X.prog X.w X.K X.mg X.base (L2.CX X.prog X.w) k f fd ps sp) (hr : Room k X.A) (hb : BindsK X.K fd ps n ks pm) (hx : PassesAt (L2.CX X.prog X.w) X σ (E σ))
    (I : Inv X pins σ H s) (r : Vals vs us) (rz : Vals zs ws) (h1 : us.length = n) (h2 : ws.length = ks.length) (h : sp (pick pm (vs ++ zs)) H Q (E σ)) : wpAny (model X.prog X.w) X.A (call (.ref f) us (ks.zip ws)) (EP X pins σ Q) X.xe s := by
  have r2 := pick_vals (r.append rz) pm
  refine wpAny_call (codeAny_mono (F.run X.A X.stack s H ⟨us, ks.zip ws⟩ (pick pm (us ++ ws)) (pick pm (vs ++ zs)) Q (E σ) hr I.env0 (hb.to s us ws I.kIn h1 h2) r2 h) fun r s' hq => ?_)
  cases r with
  | error e => exact hx pins H s e s' I hq
  | ok fl =>
    cases fl with
    | ret u => exact I.after hq
    | next => exact False.elim hq
    | brk => exact False.elim hq
    | cont => exact False.elim hq
/-- f(k = v, ..) -/
theorem e_callK0 {k n : Nat} {f : Addr} {fd : FuncData} {ps ks : List Str} {x : Str} {p pos : Pos} {kws : List Keyword} {pm : List Nat} {mf : List D → Sto → Rs D} {mk : Ex (List D)} (tk : Takes X W)
    (F : FnOk X.prog X.w X.K X.mg X.base (L2.CX X.prog X.w) k f fd ps (spF g n mf)) (hr : Room k X.A) (hg : Gl X x) (hm : X.mg x = some (.ref f)) (hk : PySem.W.keepIn X.K (.ref f) = true) (hb : BindsK X.K fd ps 0 ks pm) (hkw : PK X kws (sD g W mk)) (hl : ∀ ds : List D, ds.length = ks.length → (pick pm ds).length = n)
    (hall : (backToKw pos (keywordEach kws X.env)).all (·.1.isSome) = true := by rfl) (hks : (backToKw pos (keywordEach kws X.env)).filterMap (·.1) = ks := by rfl) (hdb : (x == ("__debug__" : Str)) = false := by decide)
    (hpl : ((backTo pos (starEach [] X.env)).any (·.1) || (backToKw pos (keywordEach kws X.env)).any (·.1.isNone)) = false := by rfl) :
    PE X (.Call (.Name x p) [] kws pos) (sE g W (mAppK 0 ks.length pm mf mNil mk)) := by
  refine ⟨fun pins s σ H Q I q => ?_⟩
  obtain ⟨e, ι, B, O, ρ, μ, b1, pp⟩ := q
  refine wpAny_Call_Name_kw (ld_glob I hg hm ?_ hdb)
  refine PySem.W.callWith_KW0 (h₀ := X.base) I.ok.mod.kin hk hall ?_ hpl
  have pp : Post g W (RD g) e O ρ σ ι B H ((mk ρ μ).bind fun zs μ2 => if ([] : List D).length = 0 ∧ zs.length = ks.length then mf (pick pm ([] ++ zs)) μ2 else .er) Q := pp
  refine thn (hkw.run pos pins s σ H _ I ⟨e, ι, B, O, ρ, μ, b1, Post.bind (R := RDs g) pp⟩) fun ws s2 ⟨zs, H2, I2, rz, ds, ι2, B2, μ2, x2, b2, r2, p2⟩ => ⟨I2.kIn, ?_⟩
  rw [hks]
  by_cases hz : ds.length = ks.length
  · rw [if_pos ⟨rfl, hz⟩] at p2
    refine run_K (E := WE W) (us := []) (vs := []) F hr hb (passAt tk σ) I2 .nil rz rfl (by rw [← rz.length, ← r2.as.len, hz]) ?_
    exact Post.spF b2 (pick_reps r2 pm).as (hl _ (by simpa using hz)) p2
  · rw [if_neg (fun z => hz z.2)] at p2
    exact p2.elim
/-- the keywords' values -/
theorem k_nil : PK X [] (sD g W mNil) := ⟨fun pos p s σ H Q I q => pk_nil.run pos p s σ H Q I (by
  obtain ⟨e, ι, B, O, ρ, μ, b1, p⟩ := q
  exact p [] ι B H (.refl _ _ _) b1 (by simp [Reps]))⟩
theorem k_cons {nm : Option Str} {a : Expr} {kpos : Pos} {kws : List Keyword} {ma : Ex D} {ms : Ex (List D)} (ha : PE X a (sE g W ma)) (hs : PK X kws (sD g W ms)) : PK X (⟨nm, a, kpos⟩ :: kws) (sD g W (mCons ma ms)) :=
  ⟨fun pos p s σ H Q I q => (pk_cons ha hs).run pos p s σ H Q I (by
    obtain ⟨e, ι, B, O, ρ, μ, b1, p⟩ := q
    refine ⟨e, ι, B, O, ρ, μ, b1, (Post.bind (R := RD g) p).imp fun vx H1 ⟨x, ι1, B1, μ1, x1, b1, r1, p1⟩ => ?_⟩
    refine ⟨e, ι1, B1, O, ρ, μ1, b1, (Post.bind (R := RDs g) p1).imp fun vs H2 ⟨xs, ι2, B2, μ2, x2, b2, r2, p2⟩ => ?_⟩
    refine p2 (vx :: vs) ι2 B2 H2 (.refl _ _ _) b2 ?_
    simp only [Reps]
    exact ⟨vx, vs, rfl, r1.step (x2.two b1.sk.inB), r2⟩)⟩
end
end MP

set_option Elab.async false
set_option linter.all false
set_option maxRecDepth 100000
set_option maxHeartbeats 4000000
/-! (a, b, c).index(x) -/
namespace MP
open PySem PySem.Spec PyProof.Rows L2
section
variable {g : G} {W : WX} {X : Cx}
/-- a tuple display as it stands -/
def tTupF (t : TA) : TE := fun σ H Q => t σ H fun xs H1 => xs.length ≤ sizeLine ∧ ∀ p ob, H1 p = none → ob.dict = none → ob.cls = .type "tuple" → Q (.ref p) (upd H1 p (.frz ob (.tup xs)))
theorem pe_tupF {es : List Expr} {t : TA} {x1} {pos : Pos} (h : PA X es t) : PE X (.Tuple es x1 pos) (tTupF t) := by
  refine ⟨fun pins s σ H Q I hq => ?_⟩
  refine wpAny_Tuple_spliced (thn (h.run pos pins s σ H _ I hq) fun us s1 ⟨xs, H1, I1, r, z, q⟩ => ⟨by rw [← r.length]; exact z, ?_⟩)
  have hf : H1 s1.heap.objs.size = none := I1.hok.fresh (Nat.le_refl _)
  have e : (s1.heap.push { cls := .type "tuple", data := .seq us.toArray }).get? s1.heap.objs.size = some { cls := .type "tuple", data := .seq us.toArray } := Heap.get?_push_size _ rfl
  refine ⟨.ref s1.heap.objs.size, upd H1 s1.heap.objs.size (.frz { cls := .type "tuple", data := .seq us.toArray } (.tup xs)), I1.laid (t' := s1.toks) (fun b u e => Heap.get?_push_of_some _ e) (Nat.le_refl _) ⟨e, z, us, r, ⟨_, e, rfl, _, rfl⟩⟩, rfl, q _ _ hf rfl rfl⟩
def tIxT (r : V → List V → Hp → VK → Prop) (to : TE) (t : TA) : TE := fun σ H Q => to σ H fun x H1 => (∃ p ob xs, x = .ref p ∧ H1 p = some (.frz ob (.tup xs)) ∧ ob.dict = none ∧ ob.cls = .type "tuple") ∧ t σ H1 fun vs H2 => r x vs H2 Q
theorem pe_bmF {o a : Expr} {as : List Expr} {to : TE} {t : TA} {name : Str} {apos cpos : Pos} {id : String} {r : V → List V → Hp → VK → Prop} (pa : PlainAttrs "tuple") (slot : Slot "tuple" name id) (hty : typeOf (.builtin id) = pure (.type "method_descriptor")) (hm : MtR X id r) (ho : PE X o to) (ha : PA X (a :: as) t)
    (hbase : attributeBase o name X.env (eval o X.env) = eval o X.env := by rfl)
    (hfew : ((backTo cpos (starEach (a :: as) X.env)).all (fun x => !x.1) && (backToKw cpos (keywordEach [] X.env)).all (fun x => x.1.isSome)
      && decide ((a :: as).length + ([] : List Keyword).length + (if ([] : List Keyword).isEmpty then 0 else 1) < 30)) = true := by rfl)
    (hline : (apos.endLine == cpos.line) = true := by rfl) (hs : starEach (a :: as) X.env = (false, eval a X.env) :: starEach as X.env := by rfl) (hplain : (backTo cpos (starEach as X.env)).any (·.1) = false := by rfl) :
    PE X (.Call (.Attribute o name apos) (a :: as) [] cpos) (tIxT r to t) := by
  refine ⟨fun pins s σ H Q I h => ?_⟩
  refine wpAny_Call_method_late hbase hfew hline rfl (thn (ho.run pins s σ H _ I h) fun v s1 ⟨x, H1, I1, r1, ty, q1⟩ => ?_)
  obtain ⟨p, ob, xs, ex, hp, hd, hc⟩ := ty
  subst ex
  obtain rfl : v = Value.ref p := r1
  obtain ⟨hg, _⟩ := (show ObjOk X.prog X.w H1 s1.heap p (.frz ob (.tup xs)) from I1.hok p _ hp)
  refine ⟨"tuple", id, pa, slot, hty, ⟨ob, hg, hc⟩, fun a e => by cases e; exact ⟨ob, hg, hd⟩, ?_⟩
  have hA := ha.run cpos pins s1 σ H1 _ I1 q1
  rw [hs] at hA ⊢
  refine Calls.callWith_builtin (by show (false || (backTo cpos (starEach as X.env)).any (·.1)) = false; rw [hplain] <;> rfl) (Calls.evalArgs_plain ?_)
  exact thn hA fun us s2 ⟨vs, H2, I2, r2, q2⟩ => hm pins s2 σ H2 (.ref p) vs (.ref p) us Q I2 rfl r2 q2
def ixS (z : Str) : List Str → Option Nat
  | [] => none
  | y :: ys => if y = z then some 0 else (ixS z ys).map (· + 1)
theorem ixS_at {z : Str} : ∀ {ys : List Str} {j : Nat}, ixS z ys = some j → ys[j]? = some z ∧ ∀ m, m < j → ys[m]? ≠ some z
  | [], j, h => by cases h
  | y :: ys, j, h => by
    unfold ixS at h
    split at h
    · rename_i e
      cases h
      exact ⟨by simp [e], fun m hm => by omega⟩
    · rename_i e
      cases hj : ixS z ys with
      | none => rw [hj] at h; cases h
      | some i =>
        rw [hj] at h
        cases h
        obtain ⟨h1, h2⟩ := ixS_at hj
        refine ⟨by simpa using h1, fun m hm => ?_⟩
        cases m with
        | zero => simpa using e
        | succ m => simpa using h2 m (by have hm : m + 1 < i + 1 := hm; omega)
def mTupIx (as : Ex (List D)) (a : Ex D) : Ex D := fun ρ μ => (as ρ μ).bind fun ds μ1 => match strsD ds with
  | some ys => if ds.length ≤ big then (a ρ μ1).bind fun x μ2 => match x with
    | .str z => match ixS z ys with
      | some j => .ok (.int (j : Nat)) μ2
      | none => .er
    | _ => .er else .er
  | none => .er
theorem e_tupIx (hK : X.K = g.K) {as : List Expr} {a : Expr} {ms : Ex (List D)} {m : Ex D} {x1} {tp apos pos : Pos} (h : PA X as (sD g W ms)) (ha : PE X a (sE g W m)) (hs : starEach [a] X.env = (false, eval a X.env) :: starEach [] X.env := by rfl)
    (hb : attributeBase (.Tuple as x1 tp) "index" X.env (eval (.Tuple as x1 tp) X.env) = eval (.Tuple as x1 tp) X.env := by rfl)
    (hfew : ((backTo pos (starEach [a] X.env)).all (fun x => !x.1) && (backToKw pos (keywordEach [] X.env)).all (fun x => x.1.isSome)
      && decide ([a].length + ([] : List Keyword).length + (if ([] : List Keyword).isEmpty then 0 else 1) < 30)) = true := by rfl)
    (hline : (apos.endLine == pos.line) = true := by rfl) (hplain : (backTo pos (starEach [] X.env)).any (·.1) = false := by rfl) :
    PE X (.Call (.Attribute (.Tuple as x1 tp) "index" apos) [a] [] pos) (sE g W (mTupIx ms m)) :=
  imE (pe_bmF PySem.F.plainAttrs_tuple PySem.F.slot_tuple_index PySem.F.type_tuple_index mt_tup_index (pe_tupF h) (pa_cons ha pa_nil hs) hb hfew hline hs hplain) fun σ H Q q => by
    obtain ⟨e, ι, B, O, ρ, μ, b1, p⟩ := q
    refine ⟨e, ι, B, O, ρ, μ, b1, (Post.bind (R := RDs g) p).imp fun vs H1 ⟨ds, ι1, B1, μ1, x1, b1, r1, p1⟩ => ?_⟩
    split at p1
    · rename_i ys hys
      split at p1
      · rename_i hl
        have e1 := strsD_eq hys
        subst e1
        have e2 := reps_strs_eq r1
        subst e2
        refine ⟨by rw [← r1.as.len]; exact big_le hl, fun pp ob hp hd hc => ⟨⟨pp, ob, _, rfl, upd_same, hd, hc⟩, ?_⟩⟩
        have xn : Ext ι1 B1 H1 ι1 B1 (upd H1 pp (.frz ob (.tup (ys.map V.str)))) := Ext.new b1.sk.dom hp
        refine ⟨e, ι1, B1, O, ρ, μ1, b1.step xn (b1.sk.new hp), (Post.bind (R := RD g) (Post.later xn p1)).imp fun vx H2 ⟨x, ι2, B2, μ2, x2, b2, r2, p2⟩ => ?_⟩
        cases x with
        | str z =>
          simp only at p2
          split at p2
          · rename_i j hj
            obtain ⟨h1, h2⟩ := ixS_at hj
            have hfz : H2 pp = some (.frz ob (.tup (ys.map V.str))) := (x2.fr pp _ upd_same (fun _ z => by cases z)).elim id fun z => z.2.elim
            exact ⟨pp, ys, z, j, rfl, by rw [(RepT.of r2).str], .inl (.inr ⟨ob, hfz⟩), h1, h2, p2 _ ι2 B2 H2 (.refl _ _ _) b2 (by simp [Rep])⟩
          · exact p2.elim
        | _ => exact p2.elim
      · exact p1.elim
    · exact p1.elim
end
end MP

set_option Elab.async false
set_option linter.all false
set_option maxRecDepth 100000
set_option maxHeartbeats 4000000
/-! for printed derivations -/
namespace MP
open PySem PySem.Spec PyProof.Rows L2
/-- a def of the module that may be called -/
structure Fn (g : G) (P : Program) (w : World) (mg : Str → Option Value) (base : Heap) (lv : Nat) (x : Str) (n : Nat) (m : List D → Sto → Rs D) : Prop where
  ex : ∃ (f : Addr) (fd : FuncData) (ps : List Str), FnOk P w g.K mg base (L2.CX P w) lv f fd ps (spF g n m) ∧ mg x = some (.ref f) ∧ PySem.W.keepIn g.K (.ref f) = true ∧ Binds g.K fd ps [] ∧ ps.length = n
/-- .. with these keywords alone -/
structure FnK (g : G) (P : Program) (w : World) (mg : Str → Option Value) (base : Heap) (lv : Nat) (x : Str) (n : Nat) (m : List D → Sto → Rs D) (ks : List Str) (pm : List Nat) : Prop where
  ex : ∃ (f : Addr) (fd : FuncData) (ps : List Str), FnOk P w g.K mg base (L2.CX P w) lv f fd ps (spF g n m) ∧ mg x = some (.ref f) ∧ PySem.W.keepIn g.K (.ref f) = true ∧ BindsK g.K fd ps 0 ks pm
/-- a def of the text as it stands behind the top; c: its code object -/
structure DefOk (K : PySem.W.Frag) (mg : Str → Option Value) (x : Str) (st : Stmt) (c : Addr) : Prop where
  ex : ∃ (f : Addr) (fd : FuncData), Fun K x x st f fd ∧ mg x = some (.ref f) ∧ fd.code = .ref c
section
variable {g : G} {W : WX} {X : Cx} {P : Program} {w : World} {mg : Str → Option Value} {base : Heap}
theorem fn_def {x : Str} {st : Stmt} {c : Addr} {N ps : List Str} {k : Nat} {b : Sm} (F : DefOk g.K mg x st c) (S : FnScope N ps (defScope st))
    (bd : ∀ (kV doc pm : Value) (an : Option Addr) (cdv ct : Value) (us : List Value), us.length = ps.length → bindArgs (PySem.W.fnOf x x (defArgs st) (defBody st) (defScope st) .none kV doc pm an cdv ct) ⟨us, []⟩ = pure (ps.zip us))
    (hb : ∀ (f : Addr) (A : Around) (outer : List Env) (s : Shared) (H : Hp) (E : XK), Room k (A.deeper (envOfC x (defScope st) s.heap.objs.size f (.ref c))) →
      Takes (cxOf (L2.CX P w) P w g.K mg base N x (defScope st) f (.ref c) A outer s H E) (fun c d _ H => E c d H) →
      PSs (cxOf (L2.CX P w) P w g.K mg base N x (defScope st) f (.ref c) A outer s H E) (defBody st) (sS g (fun c d _ H => E c d H) b)) :
    ∃ (f : Addr) (fd : FuncData), FnOk P w g.K mg base (L2.CX P w) (k + 1) f fd ps (spF g ps.length (runF b N.length)) ∧ mg x = some (.ref f) ∧ PySem.W.keepIn g.K (.ref f) = true ∧ Binds g.K fd ps [] ∧ Fun g.K x x st f fd := by
  obtain ⟨f, fd, F, hm, hc⟩ := F.ex
  refine ⟨f, fd, ?_, hm, F.kp, F.binds bd, F⟩
  obtain ⟨oc, od, kV, doc, pm, an, cdv, ct, osl, rfl, lk, hcd⟩ := F.ex
  cases (show cdv = Value.ref c from hc)
  refine fn_of lk hcd S (fun vs H Q E h => ?_) fun A outer s H vs Q E hr hsp => ⟨_, hb f A outer s H E hr (takes_of rfl rfl rfl rfl), ?_⟩
  · obtain ⟨ι, B, ds, μ, _, r, hl, _⟩ := h
    rw [← r.len, hl]
  · obtain ⟨ι, B, ds, μ, k, r, hl, p⟩ := hsp
    have hps : ps.length ≤ N.length := by
      have q := congrArg List.length S.pre
      rw [List.length_take] at q
      omega
    refine ⟨⟨ι, B, H⟩, ι, B, fun _ => none, _, μ, BR.start k r (by rw [← r.len, hl]; exact hps), ?_⟩
    unfold runF at p
    cases hm : b (ds.map Sl.val ++ List.replicate (N.length - ds.length) Sl.un) μ with
    | nx ρ μ' => rw [hm] at p; exact fun ι' B' O' σ' H' _ b' => p .non ι' B' H' b'.ext b'.sk (by simp [Rep])
    | rt d μ' => rw [hm] at p; exact fun v ι' B' H' sk ex r => p v ι' B' H' ex sk r
    | bk ρ μ' => rw [hm] at p; exact p.elim
    | ct ρ μ' => rw [hm] at p; exact p.elim
    | ex x ρ μ' => rw [hm] at p; exact fun cls dx ι' B' O' σ' H' _ b' r => p cls dx ι' B' H' b'.ext b'.sk r
    | er => rw [hm] at p; exact p.elim
theorem fn_of_def {x : Str} {st : Stmt} {ps : List Str} {lv n : Nat} {m : List D → Sto → Rs D} (h : ∃ (f : Addr) (fd : FuncData), FnOk P w g.K mg base (L2.CX P w) lv f fd ps (spF g n m) ∧ mg x = some (.ref f) ∧ PySem.W.keepIn g.K (.ref f) = true ∧ Binds g.K fd ps [] ∧ Fun g.K x x st f fd) (hl : ps.length = n := by rfl) : Fn g P w mg base lv x n m := by
  obtain ⟨f, fd, h1, h2, h3, h4, _⟩ := h
  exact ⟨f, fd, ps, h1, h2, h3, h4, hl⟩
theorem fnK_of_def {x : Str} {st : Stmt} {ps ks : List Str} {pm : List Nat} {lv n : Nat} {m : List D → Sto → Rs D} (h : ∃ (f : Addr) (fd : FuncData), FnOk P w g.K mg base (L2.CX P w) lv f fd ps (spF g n m) ∧ mg x = some (.ref f) ∧ PySem.W.keepIn g.K (.ref f) = true ∧ Binds g.K fd ps [] ∧ Fun g.K x x st f fd)
    (bd : ∀ (kV doc pm' : Value) (an : Option Addr) (cdv ct : Value) (us ws : List Value), us.length = 0 → ws.length = ks.length → bindArgs (PySem.W.fnOf x x (defArgs st) (defBody st) (defScope st) .none kV doc pm' an cdv ct) ⟨us, ks.zip ws⟩ = pure (ps.zip (pick pm (us ++ ws)))) : FnK g P w mg base lv x n m ks pm := by
  obtain ⟨f, fd, h1, h2, h3, _, h5⟩ := h
  exact ⟨f, fd, ps, h1, h2, h3, bindsK_of h5 bd⟩
theorem c_fn {k lv n : Nat} {x : Str} {p pos : Pos} {a : Expr} {as : List Expr} {m : List D → Sto → Rs D} {ms : Ex (List D)} (c : Fn g X.prog X.w X.mg X.base lv x n m) (hK : X.K = g.K) (tk : Takes X W) (hr : Room k X.A) (hl : lv ≤ k) (hg : Gl X x) (ha : PA X (a :: as) (sD g W ms))
    (hdb : (x == ("__debug__" : Str)) = false := by decide) (he : starEach (a :: as) X.env = (false, eval a X.env) :: starEach as X.env := by rfl) (hpl : (backTo pos (starEach as X.env)).any (·.1) = false := by rfl) :
    PE X (.Call (.Name x p) (a :: as) [] pos) (sE g W (mApp n m ms)) := by
  obtain ⟨f, fd, ps, h1, h2, h3, h4, _⟩ := c.ex
  rw [← hK] at h1 h3 h4
  exact e_call tk h1 (hr.mono hl) hg h2 h3 h4 ha hdb he hpl
theorem c_fn0 {k lv : Nat} {x : Str} {p pos : Pos} {m : List D → Sto → Rs D} (c : Fn g X.prog X.w X.mg X.base lv x 0 m) (hK : X.K = g.K) (hr : Room k X.A) (hl : lv ≤ k) (hg : Gl X x)
    (hdb : (x == ("__debug__" : Str)) = false := by decide) : PE X (.Call (.Name x p) [] [] pos) (sE g W (mApp0 m)) := by
  obtain ⟨f, fd, ps, h1, h2, h3, h4⟩ := c.ex
  obtain ⟨h4, hl0⟩ := h4
  have hp : ps = [] := List.eq_nil_of_length_eq_zero hl0
  subst hp
  rw [← hK] at h1 h3 h4
  exact e_call0 h1 (hr.mono hl) hg h2 h3 h4 hdb
theorem c_fnK {k lv n : Nat} {x : Str} {p pos : Pos} {kws : List Keyword} {ks : List Str} {pm : List Nat} {m : List D → Sto → Rs D} {mk : Ex (List D)} (c : FnK g X.prog X.w X.mg X.base lv x n m ks pm) (hK : X.K = g.K) (tk : Takes X W) (hr : Room k X.A) (hl : lv ≤ k) (hg : Gl X x) (hkw : PK X kws (sD g W mk)) (hp : ∀ ds : List D, ds.length = ks.length → (pick pm ds).length = n)
    (hall : (backToKw pos (keywordEach kws X.env)).all (·.1.isSome) = true := by rfl) (hks : (backToKw pos (keywordEach kws X.env)).filterMap (·.1) = ks := by rfl) (hdb : (x == ("__debug__" : Str)) = false := by decide)
    (hpl : ((backTo pos (starEach [] X.env)).any (·.1) || (backToKw pos (keywordEach kws X.env)).any (·.1.isNone)) = false := by rfl) : PE X (.Call (.Name x p) [] kws pos) (sE g W (mAppK 0 ks.length pm m mNil mk)) := by
  obtain ⟨f, fd, ps, h1, h2, h3, h4⟩ := c.ex
  rw [← hK] at h1 h3 h4
  exact e_callK0 tk h1 (hr.mono hl) hg h2 h3 h4 hkw hp hall hks hdb hpl
theorem c_fnL {k lv n : Nat} {x : Str} {p pos : Pos} {a : Expr} {as : List Expr} {m : List D → Sto → Rs D} {ms : Ex (List D)} {j : Nat} {L : Lam} {js : List Nat} (T : LamT g X j L js) (c : Fn g X.prog X.w X.mg X.base lv x n m) (hK : X.K = g.K) (tk : Takes X W) (hr : Room k X.A) (hl : lv ≤ k) (hg : Gl X x) (ha : PA X (a :: as) (sem g W (RL g L (lamQ X) (lamCl X L)) ms))
    (hdb : (x == ("__debug__" : Str)) = false := by decide) (he : starEach (a :: as) X.env = (false, eval a X.env) :: starEach as X.env := by rfl) (hpl : (backTo pos (starEach as X.env)).any (·.1) = false := by rfl) :
    PE X (.Call (.Name x p) (a :: as) [] pos) (sE g W (mAppL n m j js ms)) := by
  obtain ⟨f, fd, ps, h1, h2, h3, h4, _⟩ := c.ex
  rw [← hK] at h1 h3 h4
  exact e_callL tk T h1 (hr.mono hl) hg h2 h3 h4 ha hdb he hpl
/-- the name in the i-th slot -/
theorem ev (i : Nat) {x : Str} {pos : Pos} (hN : X.N[i]? = some x := by rfl) (hv : Vis X.env.scope x := by first | exact Or.inl rfl | exact Or.inr (Or.inl rfl) | exact Or.inr (Or.inr rfl)) (hd : (x == ("__debug__" : Str)) = false := by decide)
    (hcd : (x == ("__classdict__" : Str)) = false := by decide) : PE X (.Name x pos) (sE g W (mVal i)) := e_var (pe_var hN hv hd hcd)
theorem lk {m : Ex D} {a : Expr} (h : PE X a (sE g W m)) : PE X a (sT g W m) := e_look h
theorem units {k : Nat} (hr : Room k X.A) : X.A.units + 65 < cLine := by have := hr.un; omega
theorem units0 {k : Nat} (hr : Room k X.A) : X.A.units < cLine := by have := hr.un; omega
theorem units64 {k : Nat} (hr : Room k X.A) : X.A.units + 64 < cLine := by have := hr.un; omega
end
/-! ### the head's facts -/
section
variable {K : PySem.W.Frag} {mg : Str → Option Value} {h : Heap}
open He
/-- a def of the text, for the Hook -/
def dOf (x : Str) (st : Stmt) : DefD := ⟨(x, none), x, x, defArgs st, defBody st, defScope st, [], []⟩
theorem defOk {fa : List Fa} {fn : List DefD} {x : Str} {st : Stmt} (X : K.In h) (G : h.Ns mainGlobals mg) (c : SaysD fa fn K) (h1 : dOf x st ∈ fn) (h2 : Fa.glo x ∈ fa) : DefOk K mg x st (codeOf K (x, none)) := by
  obtain ⟨fd, F⟩ := c.defs h1
  have e := glo_ok X G (c.facts h2)
  obtain ⟨oc, od, dV, kV, doc, pm, an, cdv, ct, osl, rfl, lk, hcd, hD, hK⟩ := F.ex
  obtain ⟨c', rfl⟩ := codeIn_ref hcd
  have hc : codeOf K (x, none) = c' := codeOf_eq (p := (x, none)) lk rfl
  have hd : dV = .none := by
    rcases hD with ⟨_, e⟩ | ⟨e, _⟩
    · exact e
    · exact absurd rfl e
  subst hd
  refine ⟨ga K x, _, ⟨⟨oc, od, kV, doc, pm, an, .ref c', ct, osl, rfl, lk, hcd⟩, F.kp⟩, e, by rw [hc]⟩
theorem strs_tup {g : G} {x : Str} {xs : List Str} (hK : g.K = K) (X : K.In h) (G : h.Ns mainGlobals mg) (hg : (Fa.glo x).ok K = true) (ht : tupB K x (xs.map Dv.str) = true) : GlobV g mg x (.tup (xs.map D.str)) := by
  refine ⟨.ref (ga K x), .ref (ga K x), glo_ok X G hg, rfl, fun B ι H => ?_⟩
  simp only [Rep]
  have t := tupB_ok ht H
  rw [List.map_map] at t
  exact ⟨ga K x, xs.map V.str, rfl, by rw [hK]; exact t, reps_strs⟩
end
end MP

set_option Elab.async false
set_option linter.all false
set_option maxRecDepth 100000
set_option maxHeartbeats 4000000
/-! for printed derivations, 2 -/
namespace MP
open PySem PySem.Spec PyProof.Rows L2
section
variable {g : G} {W : WX} {X : Cx} {tg : Expr}
/-- whatever is walked -/
def mIt (a : Ex D) : Ex (List D) := fun ρ μ => (a ρ μ).bind fun d μ1 => match d with
  | .lst ds => .ok ds μ1
  | .tup ds => .ok ds μ1
  | .str x => .ok (signsD x) μ1
  | .scr ns => .ok (ns.map .int) μ1
  | _ => .er
theorem pi_or {a : Expr} {t u : TI} (h : PI X tg a t) (h2 : PI X tg a u) : PI X tg a (fun σ H R => t σ H R ∨ u σ H R) := ⟨fun p s σ H R I q => q.elim (h.run p s σ H R I) (h2.run p s σ H R I)⟩
theorem itOk_scr {ns : List Int} {a : Addr} {ι : List Addr} {B : Addr → Prop} {H : Hp} (h : ScrL g.K B H a (ns.map V.int)) (hK : X.K = g.K) : ItOk g (Itl X.K a) (ns.map .int) ι B H := by
  intro ι' B' μ' H' x k
  have sq : SqL X.K H' a (ns.map V.int) := by rw [hK]; exact (x.scr h).sq
  have r : Reps g B' ι' H' (ns.map D.int) (ns.map V.int) := reps_ints
  refine ⟨fun i d hd => ?_, ⟨_, sq, by simp⟩⟩
  obtain ⟨v, hv, rv⟩ := r.get hd
  refine ⟨⟨_, v, sq, hv⟩, fun y H'' hy => ?_⟩
  obtain ⟨e, hy⟩ := hy
  subst e
  have := hy _ sq
  rw [hv] at this
  cases this
  exact ⟨.refl _ _ _, k, rv⟩
theorem i_any (hK : X.K = g.K) {a : Expr} {m : Ex D} (h : PE X a (sE g W m)) : PI X tg a (sI g W (mIt m)) := imI (pi_or (pi_list h) (pi_or (pi_tup h) (pi_str h))) fun σ H R q => by
  obtain ⟨e, ι, B, O, ρ, μ, b, p⟩ := q
  unfold mIt at p
  cases hm : m ρ μ with
  | ex d μ' =>
    rw [hm] at p
    exact .inl ⟨e, ι, B, O, ρ, μ, b, by rw [hm]; exact p⟩
  | er => rw [hm] at p; exact p.elim
  | ok d μ' =>
    rw [hm] at p
    cases d with
    | lst ds =>
      refine .inl ⟨e, ι, B, O, ρ, μ, b, ?_⟩
      rw [hm]
      intro v ι' B' H' x b' r
      simp only [Rep] at r
      obtain ⟨a, vs, e1, h1, nb, h2⟩ := r
      exact ⟨a, e1, ⟨vs, .of h1⟩, p _ ι' B' H' x b' (itOk_list h1 nb h2 hK)⟩
    | tup ds =>
      refine .inr (.inl ⟨e, ι, B, O, ρ, μ, b, ?_⟩)
      rw [hm]
      intro v ι' B' H' x b' r
      simp only [Rep] at r
      obtain ⟨a, vs, e1, h1, h2⟩ := r
      exact ⟨a, e1, ⟨vs, by rw [hK]; exact h1⟩, p _ ι' B' H' x b' (itOk_tup h1 h2 hK)⟩
    | str y =>
      refine .inr (.inr ⟨e, ι, B, O, ρ, μ, b, ?_⟩)
      rw [hm]
      intro v ι' B' H' x b' r
      exact ⟨y, (RepT.of r).str, p _ ι' B' H' x b' itOk_str⟩
    | scr ns =>
      refine .inl ⟨e, ι, B, O, ρ, μ, b, ?_⟩
      rw [hm]
      intro v ι' B' H' x b' r
      simp only [Rep] at r
      obtain ⟨a, e1, h1⟩ := r
      exact ⟨a, e1, ⟨_, by rw [hK]; exact h1.sq⟩, p _ ι' B' H' x b' (itOk_scr h1 hK)⟩
    | _ => exact p.elim
/-- what is never reached -/
def mEr : Sm := fun _ _ => .er
theorem s_er {st : Stmt} : PS X st (sS g W mEr) := imS ps_never fun D' σ H q => by
  obtain ⟨e, ι, B, O, ρ, μ, b, p⟩ := q
  exact p
theorem ss_er {st : List Stmt} : PSs X st (sS g W mEr) := ⟨fun p s σ H D I q => by
  obtain ⟨e, ι, B, O, ρ, μ, b, p⟩ := q
  exact p.elim⟩
theorem runF_er (N : Nat) : runF mEr N = fun _ _ => .er := rfl
theorem s_pass {pos : Pos} : PS X (.Pass pos) (sS g W mSkip) := imS ps_pass fun D' σ H q => by
  obtain ⟨e, ι, B, O, ρ, μ, b, p⟩ := q
  exact p ι B O σ H (.refl _ _ _) b
theorem gN (i : Nat) {x : Str} {pos : Pos} (hN : X.N.Nodup) (hi : X.N[i]? = some x := by rfl) (hx : Loc X.env.scope x := by first | exact Or.inl rfl | exact Or.inr rfl) (hf : X.fn x = true ∨ X.env.scope.names.lookup x = some .local := by first | exact .inl rfl | exact .inr rfl) : PG X (.Name x pos) (sG g [i] (tName i)) := g_name (pg_name hN hi hx hf)
theorem uN (i : Nat) {x : Str} {pos : Pos} (hN : X.N.Nodup) (hi : X.N[i]? = some x := by rfl) (hx : Loc X.env.scope x := by first | exact Or.inl rfl | exact Or.inr rfl) (hf : X.fn x = true ∨ X.env.scope.names.lookup x = some .local := by first | exact .inl rfl | exact .inr rfl) : PG X (.Name x pos) (sU g (uName i)) := u_name (pg_name hN hi hx hf)
theorem sN (i : Nat) {x : Str} {a : Expr} {m : Ex D} {pos pos' : Pos} (hN : X.N.Nodup) (h : PE X a (sE g W m)) (hi : X.N[i]? = some x := by rfl) (hx : Loc X.env.scope x := by first | exact Or.inl rfl | exact Or.inr rfl) (hs : swapsWith a (some (.Name x pos')) pos.line X.env = pure false := by rfl) (hf : X.fn x = true ∨ X.env.scope.names.lookup x = some .local := by first | exact .inl rfl | exact .inr rfl) :
    PS X (.Assign [.Name x pos'] a pos) (sS g W (mSet i m)) := s_set hN hi hx h hs hf
theorem sP (i j : Nat) {x y : Str} {a b : Expr} {ms : Ex (List D)} {px py pt : Pos} {kt k2 pt2} {pos : Pos} (hN : X.N.Nodup) (ha : PA X [a, b] (sD g W ms)) (hc : X.calm = true := by rfl) (hi : X.N[i]? = some x := by rfl) (hj : X.N[j]? = some y := by rfl) (hij : i ≠ j := by decide)
    (hx : X.env.scope.names.lookup x = some .local := by rfl) (hy : X.env.scope.names.lookup y = some .local := by rfl)
    (hw : swappedStores [.Tuple [.Name x px, .Name y py] kt pt] (.Tuple [a, b] k2 pt2) X.env = pure (some [x, y]) := by rfl)
    (hs : swapsWithSole [.Tuple [.Name x px, .Name y py] kt pt] (.Tuple [a, b] k2 pt2) pos.line X.env = pure false := by rfl) :
    PS X (.Assign [.Tuple [.Name x px, .Name y py] kt pt] (.Tuple [a, b] k2 pt2) pos) (sS g W (mPar i j ms)) := s_par hc hN hi hj hij hx hy ha hw hs
theorem eLc {elt iter : Expr} {ifs : List Expr} {scope : Scope} {own : List (Str × Nat)} {pos : Pos} {src : Ex (List D)} {is : List Nat} {t : Tg} {c : Ex Bool} {m : Ex D} (hN : X.N.Nodup) (own' : List (Str × Nat)) (ho : own' = own) (hi : PI X tg iter (sI g W src))
    (hg : ∀ (s : Shared) (H : Hp) (C : Addr) (cl : List (Str × Addr)) (fp : List Addr), PG (X.blk s H scope (compEnvC scope cl C X.env) fp) tg (sG g is t)) (ht : ∀ (s : Shared) (H : Hp) (C : Addr) (cl : List (Str × Addr)) (fp : List Addr), PTs (X.blk s H scope (compEnvC scope cl C X.env) fp) ifs (sC g W0 c))
    (he : ∀ (s : Shared) (H : Hp) (C : Addr) (cl : List (Str × Addr)) (fp : List Addr), PE (X.blk s H scope (compEnvC scope cl C X.env) fp) elt (sE g W0 m)) (hsub : ∀ i ∈ is, i ∈ own.map (·.2)) (hc : X.calm = true := by rfl) (ok : blkC X.N X.env.scope scope own = true := by rfl) (hs : ∀ x, foldedSetIterable iter X.env x = pure x := by intro _; rfl) :
    PE X (.ListComp elt [⟨tg, iter, ifs, 0⟩] scope pos) (sE g W (mComp src (own.map (·.2)) t c m)) := e_lc hc hN ok hsub hi hg ht he hs
theorem sLc (i : Nat) {y : Str} {py : Pos} {elt iter : Expr} {ifs : List Expr} {scope : Scope} {own : List (Str × Nat)} {pos spos : Pos} {src : Ex (List D)} {is : List Nat} {t : Tg} {c : Ex Bool} {m : Ex D} (hN : X.N.Nodup) (own' : List (Str × Nat)) (ho : own' = own) (hi : PI X tg iter (sI g W src))
    (hg : ∀ (s : Shared) (H : Hp) (C : Addr) (cl : List (Str × Addr)) (fp : List Addr), PG (X.blk s H scope (compEnvC scope cl C X.env) fp) tg (sG g is t)) (ht : ∀ (s : Shared) (H : Hp) (C : Addr) (cl : List (Str × Addr)) (fp : List Addr), PTs (X.blk s H scope (compEnvC scope cl C X.env) fp) ifs (sC g W0 c))
    (he : ∀ (s : Shared) (H : Hp) (C : Addr) (cl : List (Str × Addr)) (fp : List Addr), PE (X.blk s H scope (compEnvC scope cl C X.env) fp) elt (sE g W0 m)) (hsub : ∀ i ∈ is, i ∈ own.map (·.2)) (hc : X.calm = true := by rfl) (hy : X.N[i]? = some y := by rfl) (hyl : X.env.scope.names.lookup y = some .local := by rfl)
    (hsw : swapsWith (.ListComp elt [⟨tg, iter, ifs, 0⟩] scope pos) (some (.Name y py)) spos.line X.env = pure true := by rfl) (ok : blkC X.N X.env.scope scope own = true := by rfl) (hs : ∀ x, foldedSetIterable iter X.env x = pure x := by intro _; rfl) :
    PS X (.Assign [.Name y py] (.ListComp elt [⟨tg, iter, ifs, 0⟩] scope pos) spos) (sS g W (mSet i (mComp src (own.map (·.2)) t c m))) := s_setLc hc hN hy hyl hsw ok hsub hi hg ht he hs
/-- a if c else b, as a test -/
theorem t_if {c a b : Expr} {mc ma mb : Ex Bool} {pos : Pos} (hc : PT X c (sC g W mc)) (ha : PT X a (sC g W ma)) (hb : PT X b (sC g W mb)) : PT X (.IfExp c a b pos) (sC g W (mIfE mc ma mb)) := by
  refine ⟨fun pins s σ H Q I q => ?_⟩
  obtain ⟨e, ι, B, O, ρ, μ, b1, p⟩ := q
  refine isTrue_IfExp (thn (hc.run pins s σ H _ I ⟨e, ι, B, O, ρ, μ, b1, Post.bind (R := RB) p⟩) fun d s1 ⟨H1, I1, x, ι1, B1, μ1, x1, b1, r1, p1⟩ => ?_)
  obtain rfl : x = d := r1
  cases x with
  | true => exact ha.run pins s1 σ H1 Q I1 ⟨e, ι1, B1, O, ρ, μ1, b1, p1⟩
  | false => exact hb.run pins s1 σ H1 Q I1 ⟨e, ι1, B1, O, ρ, μ1, b1, p1⟩
/-- a lambda of a def with its maker -/
theorem mks_of {q : Str} {c Pt : Addr} {nm : Nat → Nat → Str} (TB : LamX.TabB X.base X.mg c Pt) (hc : X.env.code = .ref c) (hm : (Pt, nm) ∈ g.tabs) (hq : ∀ l k, nm l k = q) (hu : ∀ p ∈ g.tabs, p.1 = Pt → p.2 = nm) : Mks g X q := ⟨⟨c, Pt, nm, TB, hc, hm, hq, hu⟩⟩
theorem LamOk.mono {P : Program} {w : World} {mg : Str → Option Value} {base : Heap} {j k : Nat} {L : Lam} {m : List D → List D → Sto → Rs D} (h : LamOk g P w mg base j L m) (hl : j ≤ k) : LamOk g P w mg base k L m :=
  ⟨fun A outer s H f c q cl us vs ws Q E hr => h.run A outer s H f c q cl us vs ws Q E (hr.mono hl)⟩
theorem LamOk.er {P : Program} {w : World} {mg : Str → Option Value} {base : Heap} {k : Nat} {L : Lam} : LamOk g P w mg base k L (fun _ _ _ => .er) :=
  ⟨fun A outer s H f c q cl us vs ws Q E hr _ _ _ _ _ ⟨ι, B, cs, ds, μ, _, _, _, p⟩ => p.elim⟩
theorem c_clo (i : Nat) {lv k : Nat} {x : Str} {p pos : Pos} {a : Expr} {as : List Expr} {T : CT} {ms : Ex (List D)} (tk : Takes X W) (hT : TOk g X.prog X.w X.mg X.base lv T) (hK : X.K = g.K) (hr : Room k X.A) (hl : lv ≤ k) (ha : PA X (a :: as) (sD g W ms))
    (hN : X.N[i]? = some x := by rfl) (hv : Vis X.env.scope x := by first | exact Or.inl rfl | exact Or.inr (Or.inl rfl) | exact Or.inr (Or.inr rfl)) (hd : (x == ("__debug__" : Str)) = false := by decide) (hcd : (x == ("__classdict__" : Str)) = false := by decide)
    (he : starEach (a :: as) X.env = (false, eval a X.env) :: starEach as X.env := by rfl) (hpl : (backTo pos (starEach as X.env)).any (·.1) = false := by rfl) :
    PE X (.Call (.Name x p) (a :: as) [] pos) (sE g W (mClo i T ms)) := e_clo tk hT hK (hr.mono hl) (pe_var hN hv hd hcd) ha he hpl
end
theorem own_by {l : List Str} {f : Str → Bool} (h : l.all f = true) : ∀ y ∈ l, f y = true := List.all_eq_true.mp h
/-! ### where lambdas stand -/
def noX : Expr := .Constant .none 0 ⟨0, 0, 0, 0⟩
def stX (i : Nat) (l : List Stmt) : Stmt := l.getD i (.Pass ⟨0, 0, 0, 0⟩)
def retX : Stmt → Expr
  | .Return (some e) _ => e
  | _ => noX
def exprX : Stmt → Expr
  | .Expr e _ => e
  | _ => noX
def asgX : Stmt → Expr
  | .Assign _ e _ => e
  | _ => noX
def argX (i : Nat) : Expr → Expr
  | .Call _ as _ _ => as.getD i noX
  | _ => noX
def ifA : Expr → Expr
  | .IfExp _ a _ _ => a
  | _ => noX
def ifB : Expr → Expr
  | .IfExp _ _ b _ => b
  | _ => noX
def lamX : Expr → Arguments × Expr × Scope
  | .Lambda p b s _ => (p, b, s)
  | _ => (⟨[], [], none, [], [], none, []⟩, noX, ⟨.function, [], false, false, []⟩)
/-- how a def's lambdas are called -/
def lamNm (x : Str) (sc : Scope) : Str := (envOfC x sc 0 0 .none).qual ++ "<lambda>"
end MP

set_option Elab.async false
set_option linter.all false
set_option maxRecDepth 100000
set_option maxHeartbeats 4000000
/-! the end of a law -/
namespace MP
open PySem PySem.Spec PyProof.Rows L2 NdefX
theorem fun_uniq {K : PySem.W.Frag} {x : Str} {st : Stmt} {f : Addr} {fd fd' : FuncData} (h : L2.Fun K x x st f fd) (h' : L2.Fun K x x st f fd') : fd = fd' := by
  obtain ⟨oc, od, kV, doc, pm, an, cdv, ct, osl, rfl, lk, _⟩ := h.ex
  obtain ⟨oc', od', kV', doc', pm', an', cdv', ct', osl', rfl, lk', _⟩ := h'.ex
  rw [lk] at lk'
  have e := Option.some.inj lk'
  exact Data.func.inj (congrArg Obj.data e)
theorem Sk.start {g : G} {H : Hp} (t : TabsN g.tabs H) : Sk g [] (fun _ => False) [] H :=
  ⟨rfl, List.nodup_nil, fun _ h => (nomatch h), fun _ h => h.elim, fun _ _ _ h => (nomatch h), t⟩
theorem law_end {l : PySem.W.OpenLaw} {w : World} {g : G} {mg : Str → Option Value} {fa : Addr} {h : Heap} {cs : List (Addr × Addr)} {m : List D → Sto → Rs D} {lv n : Nat} {st : Stmt} {c : Addr}
    (D0 : DefOk g.K mg "law" st c) (hfa : mg "law" = some (.ref fa))
    (h1 : ∀ p ∈ cs, h.get? p.2 = some { cls := .none, data := .fields #[] }) (h2 : ∀ p ∈ cs, g.K.lookup p.2 = none) (h3 : ∀ p ∈ cs, PySem.W.CodeHd h p.1 p.2)
    (hb : ∀ (kV doc pm : Value) (an : Option Addr) (cdv ct : Value) (u : Value), bindArgs (PySem.W.fnOf "law" "law" (defArgs st) (defBody st) (defScope st) .none kV doc pm an cdv ct) ⟨[u], []⟩ = pure [(("script" : Str), u)])
    (ht : ∀ p ∈ g.tabs, ∃ q ∈ cs, q.2 = p.1)
    (hp : ∀ ns : List Int, ns.length ≤ n → (∀ z ∈ ns, Builtin.Int.intBits z ≤ 1048576) → ∃ μ, m [.scr ns] [] = .ok (.bl true) μ)
    (F : ∀ base : Heap, g.K.In base → base.Ns mainGlobals mg → (∀ p ∈ cs, LamX.TabB base mg p.1 p.2) →
      ∃ (f : Addr) (fd : FuncData), FnOk l.prog w g.K mg base (L2.CX l.prog w) lv f fd ["script"] (spF g 1 m) ∧ mg "law" = some (.ref f) ∧ PySem.W.keepIn g.K (.ref f) = true ∧ Binds g.K fd ["script"] [] ∧ L2.Fun g.K "law" "law" st f fd) :
    LamX.LawAtS l w g.K (L2.CX l.prog w) lv n "script" mg fa h := by
  obtain ⟨f0, fd0, Fu, hm, _⟩ := D0.ex
  have ef : f0 = fa := by
    rw [hm] at hfa
    cases hfa
    rfl
  subst ef
  refine ⟨fd0, cs, spF g 1 m, h1, h2, h3, ?_, fun H a ns hl hbits hT hS => ?_, fun base KB GB TB => ?_⟩
  · obtain ⟨oc, od, kV, doc, pm, an, cdv, ct, osl, rfl, lk, hcd⟩ := Fu.ex
    exact fun s u => BindsTo.of_eq (hb kV doc pm an cdv ct u)
  · obtain ⟨μ, e⟩ := hp ns hl hbits
    refine ⟨[], fun _ => False, [.scr ns], [], Sk.start fun p hp => ?_, ?_, rfl, ?_⟩
    · obtain ⟨q, hq, e⟩ := ht p hp
      refine ⟨#[], by rw [← e]; exact hT q hq, ?_, fun pos cv hc => ?_⟩
      · first | trivial | (simp [TriplesOk])
      · simp [codeAmong] at hc
    · simp only [RepAs]
      refine ⟨_, _, rfl, .inl ?_, rfl⟩
      simp only [Rep]
      exact ⟨a, rfl, .of hS fun z => z⟩
    · rw [e]
      intro v ι' B' H' _ _ r
      simpa [Rep] using r
  · obtain ⟨f, fd, h1, h2, _, _, h5⟩ := F base KB GB TB
    have ef : f = f0 := by
      rw [hm] at h2
      cases h2
      rfl
    subst ef
    rw [fun_uniq Fu h5]
    exact h1
/-- a def by its places among the facts -/
theorem defAt {K : PySem.W.Frag} {mg : Str → Option Value} {h : Heap} {fa : List He.Fa} {fn : List He.DefD} {x : Str} {st : Stmt} (X : K.In h) (G : h.Ns mainGlobals mg) (c : He.SaysD fa fn K) (i j : Nat) (h1 : fn[i]? = some (dOf x st) := by rfl) (h2 : fa[j]? = some (.glo x) := by rfl) : DefOk K mg x st (He.codeOf K (x, none)) :=
  defOk X G c (List.mem_of_getElem? h1) (List.mem_of_getElem? h2)
theorem tabs_uniq {l : List NTab} (nd : (l.map (·.1)).Nodup) {p q : NTab} {k : Nat} (hp : p ∈ l) (hq : l[k]? = some q) (e : p.1 = q.1) : p.2 = q.2 := by
  obtain ⟨i, hi⟩ := List.mem_iff_getElem?.mp hp
  have h1 : (l.map (·.1))[i]? = some p.1 := by rw [List.getElem?_map, hi]; rfl
  have h2 : (l.map (·.1))[k]? = some p.1 := by rw [List.getElem?_map, hq, e]; rfl
  obtain ⟨l1, e1⟩ := List.getElem?_eq_some_iff.mp h1
  obtain ⟨l2, e2⟩ := List.getElem?_eq_some_iff.mp h2
  have ik : i = k := (List.getElem_inj nd).mp (e1.trans e2.symm)
  subst ik
  rw [hi] at hq
  cases hq
  rfl
theorem no_cx {P : Program} : ∀ (w : World) (H : Hp) (s : Shared) (e : Value) (s' : Shared), L2.CX P w [] H s (fun _ _ _ => False) e s' → False :=
  fun _ _ _ _ _ ⟨_, _, _, _, _, _, _, _, _, _, _, _, h⟩ => h
end MP

set_option Elab.async false
set_option linter.all false
set_option maxRecDepth 100000
set_option maxHeartbeats 4000000
/-! what the combinators compute, for simp -/
namespace MP
open PySem PySem.Spec PyProof.Rows L2
section
variable {α β : Type} {ρ : Env'} {μ : Sto}
@[simp] theorem z_bind_ok (a : α) (f : α → Sto → Rs β) : (Rs.ok a μ).bind f = f a μ := rfl
@[simp] theorem z_bind_ex (e : Exn) (f : α → Sto → Rs β) : (Rs.ex e μ : Rs α).bind f = .ex e μ := rfl
@[simp] theorem z_bind_er (f : α → Sto → Rs β) : (Rs.er : Rs α).bind f = .er := rfl
@[simp] theorem z_s_ok (a : α) (f : α → Sto → SRs) : (Rs.ok a μ).s ρ f = f a μ := rfl
@[simp] theorem z_s_ex (e : Exn) (f : α → Sto → SRs) : (Rs.ex e μ : Rs α).s ρ f = .ex e ρ μ := rfl
@[simp] theorem z_s_er (f : α → Sto → SRs) : (Rs.er : Rs α).s ρ f = .er := rfl
@[simp] theorem z_opt (a : α) : opt (some a) μ = .ok a μ := rfl
@[simp] theorem z_optn : opt (none : Option α) μ = .er := rfl
@[simp] theorem z_C (d : D) : mC d ρ μ = .ok d μ := rfl
@[simp] theorem z_Val (i : Nat) : mVal i ρ μ = match ρ[i]? with
  | some (.val d) => if isClo d then .er else .ok d μ
  | _ => .er := rfl
@[simp] theorem z_m2 (op : Sto → D → D → Option D) (a b : Ex D) : m2 op a b ρ μ = (a ρ μ).bind fun x μ1 => (b ρ μ1).bind fun y μ2 => opt (op μ2 x y) μ2 := rfl
@[simp] theorem z_m1 (op : Sto → D → Option D) (a : Ex D) : m1 op a ρ μ = (a ρ μ).bind fun x μ1 => opt (op μ1 x) μ1 := rfl
@[simp] theorem z_nil : mNil ρ μ = .ok [] μ := rfl
@[simp] theorem z_cons (a : Ex D) (b : Ex (List D)) : mCons a b ρ μ = (a ρ μ).bind fun x μ1 => (b ρ μ1).bind fun xs μ2 => .ok (x :: xs) μ2 := rfl
@[simp] theorem z_call (op : Sto → List D → Option D) (as : Ex (List D)) : mCall op as ρ μ = (as ρ μ).bind fun xs μ1 => opt (op μ1 xs) μ1 := rfl
@[simp] theorem z_app (n : Nat) (f : List D → Sto → Rs D) (as : Ex (List D)) : mApp n f as ρ μ = (as ρ μ).bind fun ds μ1 => if ds.length = n then f ds μ1 else .er := rfl
@[simp] theorem z_app0 (f : List D → Sto → Rs D) : mApp0 f ρ μ = match f [] μ with
  | .ok d μ' => .ok d μ'
  | _ => .er := rfl
@[simp] theorem z_appK (n l : Nat) (pm : List Nat) (f : List D → Sto → Rs D) (as ks : Ex (List D)) : mAppK n l pm f as ks ρ μ = (as ρ μ).bind fun ds μ1 => (ks ρ μ1).bind fun zs μ2 => if ds.length = n ∧ zs.length = l then f (pick pm (ds ++ zs)) μ2 else .er := rfl
@[simp] theorem z_appL (n : Nat) (f : List D → Sto → Rs D) (k : Nat) (js : List Nat) (as : Ex (List D)) : mAppL n f k js as ρ μ = (as ρ μ).bind fun ds μ1 => match caps ρ js with
  | some cs => if (ds ++ [D.clo k cs]).length = n then f (ds ++ [.clo k cs]) μ1 else .er
  | none => .er := rfl
@[simp] theorem z_caps0 : caps ρ [] = some [] := rfl
@[simp] theorem z_caps (j : Nat) (js : List Nat) : caps ρ (j :: js) = match ρ[j]? with
  | some (.val d) => (caps ρ js).map (d :: ·)
  | _ => none := rfl
@[simp] theorem z_clo (i : Nat) (T : CT) (as : Ex (List D)) : mClo i T as ρ μ = match ρ[i]? with
  | some (.val (.clo k cs)) => (as ρ μ).bind fun ds μ1 => T k cs ds μ1
  | _ => .er := rfl
@[simp] theorem z_B (a : Ex D) : mB a ρ μ = (a ρ μ).bind fun x μ1 => match x with
  | .bl b => .ok b μ1
  | _ => .er := rfl
@[simp] theorem z_not (a : Ex Bool) : mNot a ρ μ = (a ρ μ).bind fun x μ1 => .ok (!x) μ1 := rfl
@[simp] theorem z_and (a b : Ex Bool) : mAnd a b ρ μ = (a ρ μ).bind fun x μ1 => if x = true then b ρ μ1 else .ok false μ1 := rfl
@[simp] theorem z_or (a b : Ex Bool) : mOr a b ρ μ = (a ρ μ).bind fun x μ1 => if x = true then .ok true μ1 else b ρ μ1 := rfl
@[simp] theorem z_andV (a b : Ex D) : mAndV a b ρ μ = (a ρ μ).bind fun x μ1 => match x with
  | .bl true => b ρ μ1
  | .bl false => .ok (.bl false) μ1
  | _ => .er := rfl
@[simp] theorem z_orV (a b : Ex D) : mOrV a b ρ μ = (a ρ μ).bind fun x μ1 => match x with
  | .bl true => .ok (.bl true) μ1
  | .bl false => b ρ μ1
  | _ => .er := rfl
@[simp] theorem z_notV (a : Ex D) : mNotV a ρ μ = (a ρ μ).bind fun x μ1 => match x with
  | .bl b => .ok (.bl (!b)) μ1
  | _ => .er := rfl
@[simp] theorem z_if (c : Ex Bool) (a b : Ex α) : mIfE c a b ρ μ = (c ρ μ).bind fun x μ1 => if x = true then a ρ μ1 else b ρ μ1 := rfl
@[simp] theorem z_skip : mSkip ρ μ = .nx ρ μ := rfl
@[simp] theorem z_seq (a b : Sm) : mSeq a b ρ μ = match a ρ μ with
  | .nx ρ' μ' => b ρ' μ'
  | r => r := rfl
@[simp] theorem z_sif (c : Ex Bool) (a b : Sm) : mIf c a b ρ μ = (c ρ μ).s ρ fun x μ1 => if x = true then a ρ μ1 else b ρ μ1 := rfl
@[simp] theorem z_ret (a : Ex D) : mRet a ρ μ = (a ρ μ).s ρ fun x μ1 => .rt x μ1 := rfl
@[simp] theorem z_do (a : Ex D) : mDo a ρ μ = (a ρ μ).s ρ fun _ μ1 => .nx ρ μ1 := rfl
@[simp] theorem z_set (i : Nat) (a : Ex D) : mSet i a ρ μ = (a ρ μ).s ρ fun x μ1 => .nx (ρ.set i (.val x)) μ1 := rfl
@[simp] theorem z_asg (m : Ex D) (t : Ug) : mAsg m t ρ μ = (m ρ μ).s ρ fun x μ1 => match t x ρ μ1 with
  | some (ρ', μ') => .nx ρ' μ'
  | none => .er := rfl
@[simp] theorem z_par (i j : Nat) (as : Ex (List D)) : mPar i j as ρ μ = (as ρ μ).s ρ fun ds μ1 => match ds with
  | [x, y] => .nx ((ρ.set i (.val x)).set j (.val y)) μ1
  | _ => .er := rfl
@[simp] theorem z_uName (i : Nat) (d : D) : uName i d ρ μ = some (ρ.set i (.val d), μ) := rfl
@[simp] theorem z_uNil : uNil [] ρ μ = some (ρ, μ) := rfl
@[simp] theorem z_uCons (t : Ug) (u : Ugs) (d : D) (r : List D) : uCons t u (d :: r) ρ μ = (t d ρ μ).bind fun p => u r p.1 p.2 := rfl
@[simp] theorem z_uTup (n : Nat) (t : Ugs) (ds : List D) : uTup n t (.tup ds) ρ μ = if ds.length = n then t ds ρ μ else none := rfl
@[simp] theorem z_uSub (mo mi : Ex D) (d : D) : uSub mo mi d ρ μ = match mo ρ μ with
  | .ok (.loc n) μ1 => match mi ρ μ1 with
    | .ok (.int k) μ2 => match μ2[n]? with
      | some (.lst ds) => match ixN ds.length k with
        | some j => some (ρ, μ2.set n (.lst (ds.set j d)))
        | none => none
      | _ => none
    | _ => none
  | _ => none := rfl
@[simp] theorem z_tName (i : Nat) (d : D) : tName i d ρ = some (ρ.set i (.val d)) := rfl
@[simp] theorem z_tNil : tNil [] ρ = some ρ := rfl
@[simp] theorem z_tCons (t : Tg) (u : List D → Env' → Option Env') (d : D) (r : List D) : tCons t u (d :: r) ρ = (t d ρ).bind (u r) := rfl
@[simp] theorem z_tTup (n : Nat) (t : List D → Env' → Option Env') (ds : List D) : tTup n t (.tup ds) ρ = if ds.length = n then t ds ρ else none := rfl
@[simp] theorem z_for (src : Ex (List D)) (t : Tg) (b : Sm) : mFor src t b ρ μ = (src ρ μ).s ρ fun ds μ1 => loop t b ds ρ μ1 := rfl
@[simp] theorem z_loop0 (t : Tg) (b : Sm) : loop t b [] ρ μ = .nx ρ μ := rfl
@[simp] theorem z_it (a : Ex D) : mIt a ρ μ = (a ρ μ).bind fun d μ1 => match d with
  | .lst ds => .ok ds μ1
  | .tup ds => .ok ds μ1
  | .str x => .ok (signsD x) μ1
  | .scr ns => .ok (ns.map .int) μ1
  | _ => .er := rfl
@[simp] theorem z_comp (src : Ex (List D)) (own : List Nat) (t : Tg) (c : Ex Bool) (m : Ex D) : mComp src own t c m ρ μ = (src ρ μ).bind fun ds μ1 => if ds.length ≤ big then (compL t c m (wipeE ρ own) ds μ1).bind fun ys μ2 => .ok (.lst ys) μ2 else .er := rfl
@[simp] theorem z_comp0 (t : Tg) (c : Ex Bool) (m : Ex D) : compL t c m ρ [] μ = .ok [] μ := rfl
@[simp] theorem z_true : mTrue ρ μ = .ok true μ := rfl
@[simp] theorem z_tup (as : Ex (List D)) : mTup as ρ μ = (as ρ μ).bind fun ds μ1 => if ds.length ≤ big then .ok (.tup ds) μ1 else .er := rfl
@[simp] theorem z_lst (as : Ex (List D)) : mLst as ρ μ = (as ρ μ).bind fun ds μ1 => if ds.length ≤ big then .ok (.lst ds) μ1 else .er := rfl
@[simp] theorem z_loc (as : Ex (List D)) : mLoc as ρ μ = (as ρ μ).bind fun ds μ1 => if ds.length ≤ big then .ok (.loc μ1.length) (μ1 ++ [.lst ds]) else .er := rfl
@[simp] theorem z_no : mNo ρ μ = .ok none μ := rfl
@[simp] theorem z_part (a : Ex D) : mPart a ρ μ = (a ρ μ).bind fun x μ1 => match x with
  | .int i => .ok (some i) μ1
  | _ => .er := rfl
@[simp] theorem z_sl (a : Ex D) (lo hi : Ex (Option Int)) : mSl a lo hi ρ μ = (a ρ μ).bind fun x μ1 => (lo ρ μ1).bind fun l μ2 => (hi ρ μ2).bind fun h μ3 => opt (dSl μ3 x l h) μ3 := rfl
@[simp] theorem z_chain (op op' : Sto → D → D → Option D) (a b c : Ex D) : mChain op op' a b c ρ μ = (a ρ μ).bind fun x μ1 => (b ρ μ1).bind fun y μ2 => match op μ2 x y with
  | some (.bl true) => (c ρ μ2).bind fun z μ3 => opt (op' μ3 y z) μ3
  | some (.bl false) => .ok (.bl false) μ2
  | _ => .er := rfl
@[simp] theorem z_enum (as : Ex (List D)) : mEnum as ρ μ = (as ρ μ).bind fun xs μ1 => match xs with
  | [x] => opt ((seqD x).map (enumD 0)) μ1
  | _ => .er := rfl
@[simp] theorem z_range1 (as : Ex (List D)) : mRange1 as ρ μ = (as ρ μ).bind fun xs μ1 => match xs with
  | [.int n] => if smallI n = true then .ok (rngD 0 n.toNat) μ1 else .er
  | _ => .er := rfl
@[simp] theorem z_zip (as : Ex (List D)) : mZip as ρ μ = (as ρ μ).bind fun xs μ1 => match xs with
  | [.lst a, .lst b] => .ok (zipD a b) μ1
  | [.tup a, .tup b] => .ok (zipD a b) μ1
  | _ => .er := rfl
@[simp] theorem z_M1 (op : Sto → D → D → Option D) (a b : Ex D) : mM1 op a b ρ μ = (a ρ μ).bind fun x μ1 => match x with
  | .str s => (b ρ μ1).bind fun y μ2 => opt (op μ2 (.str s) y) μ2
  | _ => .er := rfl
@[simp] theorem z_append (a b : Ex D) : mAppend a b ρ μ = (a ρ μ).bind fun x μ1 => (b ρ μ1).bind fun y μ2 => match x with
  | .loc n => match μ2[n]? with
    | some (.lst ds) => if ds.length < big then .ok .non (μ2.set n (.lst (ds ++ [y]))) else .er
    | _ => .er
  | _ => .er := rfl
@[simp] theorem z_isLoc (a : Ex D) : mIsLoc a ρ μ = (a ρ μ).bind fun x μ1 => match x with
  | .loc n => match μ1[n]? with
    | some (.lst _) => .ok x μ1
    | _ => .er
  | _ => .er := rfl
@[simp] theorem z_tupIx (as : Ex (List D)) (a : Ex D) : mTupIx as a ρ μ = (as ρ μ).bind fun ds μ1 => match strsD ds with
  | some ys => if ds.length ≤ big then (a ρ μ1).bind fun x μ2 => match x with
    | .str z => match ixS z ys with
      | some j => .ok (.int (j : Nat)) μ2
      | none => .er
    | _ => .er else .er
  | none => .er := rfl
theorem z_loop (t : Tg) (b : Sm) (d : D) (ds : List D) : loop t b (d :: ds) ρ μ = match t d ρ with
    | some ρ1 => match b ρ1 μ with
      | .nx ρ2 μ2 => loop t b ds ρ2 μ2
      | .ct ρ2 μ2 => loop t b ds ρ2 μ2
      | .bk ρ2 μ2 => .nx ρ2 μ2
      | .rt d μ2 => .rt d μ2
      | .ex x ρ2 μ2 => .ex x ρ2 μ2
      | .er => .er
    | none => .er := rfl
theorem z_compL (t : Tg) (c : Ex Bool) (m : Ex D) (d : D) (ds : List D) : compL t c m ρ (d :: ds) μ = match t d ρ with
    | some ρ1 => match c ρ1 μ with
      | .ok true μ2 => match m ρ1 μ2 with
        | .ok y μ3 => (compL t c m ρ ds μ3).bind fun ys μ4 => .ok (y :: ys) μ4
        | _ => .er
      | .ok false μ2 => compL t c m ρ ds μ2
      | _ => .er
    | none => .er := rfl
end
end MP

set_option Elab.async false
set_option linter.all false
set_option maxRecDepth 100000
set_option maxHeartbeats 4000000
/-! plain lemmas about the combinators -/
namespace MP
open PySem PySem.Spec PyProof.Rows L2
@[simp] theorem isClo_non : isClo .non = false := rfl
@[simp] theorem isClo_bl (b : Bool) : isClo (.bl b) = false := rfl
@[simp] theorem isClo_int (b : Int) : isClo (.int b) = false := rfl
@[simp] theorem isClo_str (b : Str) : isClo (.str b) = false := rfl
@[simp] theorem isClo_tup (b : List D) : isClo (.tup b) = false := rfl
@[simp] theorem isClo_lst (b : List D) : isClo (.lst b) = false := rfl
@[simp] theorem isClo_scr (b : List Int) : isClo (.scr b) = false := rfl
@[simp] theorem isClo_dct (b c : List D) : isClo (.dct b c) = false := rfl
@[simp] theorem isClo_loc (b : Nat) : isClo (.loc b) = false := rfl
@[simp] theorem isClo_fn (b : Str) : isClo (.fn b) = false := rfl
theorem beq_dec (a b : Int) : (a == b) = decide (a = b) := by
  by_cases h : a = b
  · simp [h]
  · simp [h]
theorem beqS_dec (a b : Str) : (a == b) = decide (a = b) := by
  by_cases h : a = b
  · simp [h]
  · simp [h]
@[simp] theorem eqD_int (a b : Int) : eqD (.int a) (.int b) = some (decide (a = b)) := by
  simp [eqD, pyd, SeqAt.shaped, PyData.canLay0, PyData.depth, PyData.eqv, beq_dec]
@[simp] theorem eqD_int_non (a : Int) : eqD (.int a) .non = some false := by
  simp [eqD, pyd, SeqAt.shaped, PyData.canLay0, PyData.depth, PyData.eqv]
def okS (x : Str) : Prop := PyData.strOk x = true
theorem eqD_str {a b : Str} (h1 : okS a) (h2 : okS b) : eqD (.str a) (.str b) = some (decide (a = b)) := by
  unfold okS at h1 h2
  simp [eqD, pyd, SeqAt.shaped, PyData.canLay0, PyData.depth, PyData.eqv, beqS_dec, h1, h2]
theorem compL_map {t : Tg} {c : Ex Bool} {m : Ex D} {ρ : Env'} {μ : Sto} {f : D → D} : ∀ {ds : List D}, (∀ d ∈ ds, ∃ ρ1, t d ρ = some ρ1 ∧ c ρ1 μ = .ok true μ ∧ m ρ1 μ = .ok (f d) μ) → compL t c m ρ ds μ = .ok (ds.map f) μ
  | [], _ => rfl
  | d :: ds, h => by
    obtain ⟨ρ1, h1, h2, h3⟩ := h d (by simp)
    rw [z_compL, h1]
    simp only [h2, h3, compL_map (ds := ds) fun d hd => h d (by simp [hd]), z_bind_ok, List.map_cons]
theorem compL_filter {t : Tg} {c : Ex Bool} {m : Ex D} {ρ : Env'} {μ : Sto} {f : D → D} {q : D → Bool} : ∀ {ds : List D}, (∀ d ∈ ds, ∃ ρ1, t d ρ = some ρ1 ∧ c ρ1 μ = .ok (q d) μ ∧ (q d = true → m ρ1 μ = .ok (f d) μ)) → compL t c m ρ ds μ = .ok ((ds.filter q).map f) μ
  | [], _ => rfl
  | d :: ds, h => by
    obtain ⟨ρ1, h1, h2, h3⟩ := h d (by simp)
    have ih := compL_filter (f := f) (q := q) (ds := ds) fun d hd => h d (by simp [hd])
    rw [z_compL, h1]
    cases hq : q d with
    | true =>
      rw [hq] at h2
      simp only [h2, h3 hq, ih, z_bind_ok, List.filter_cons, hq, if_true, List.map_cons]
    | false =>
      rw [hq] at h2
      simp only [h2, ih, List.filter_cons, hq, Bool.false_eq_true, if_false]
/-- a loop that goes through all -/
theorem loop_inv {t : Tg} {b : Sm} {P : List D → Env' → Sto → Prop} : ∀ {ds : List D} {ρ : Env'} {μ : Sto}, P ds ρ μ → (∀ d ds ρ μ, P (d :: ds) ρ μ → ∃ ρ1 ρ2 μ2, t d ρ = some ρ1 ∧ b ρ1 μ = .nx ρ2 μ2 ∧ P ds ρ2 μ2) →
    ∃ ρ' μ', loop t b ds ρ μ = .nx ρ' μ' ∧ P [] ρ' μ'
  | [], ρ, μ, h, _ => ⟨ρ, μ, rfl, h⟩
  | d :: ds, ρ, μ, h, st => by
    obtain ⟨ρ1, ρ2, μ2, h1, h2, h3⟩ := st d ds ρ μ h
    obtain ⟨ρ', μ', e, q⟩ := loop_inv h3 st
    exact ⟨ρ', μ', by rw [z_loop, h1]; simp only [h2]; exact e, q⟩
/-- a comprehension whose turns change the store -/
theorem compL_inv {t : Tg} {c : Ex Bool} {m : Ex D} {ρ : Env'} {P : List D → List D → Sto → Prop} : ∀ {ds acc : List D} {μ : Sto}, P ds acc μ → (∀ d ds acc μ, P (d :: ds) acc μ → ∃ ρ1 y μ2, t d ρ = some ρ1 ∧ c ρ1 μ = .ok true μ ∧ m ρ1 μ = .ok y μ2 ∧ P ds (acc ++ [y]) μ2) →
    ∃ ys μ', compL t c m ρ ds μ = .ok ys μ' ∧ P [] (acc ++ ys) μ'
  | [], acc, μ, h, _ => ⟨[], μ, rfl, by simpa using h⟩
  | d :: ds, acc, μ, h, st => by
    obtain ⟨ρ1, y, μ2, h1, h2, h3, h4⟩ := st d ds acc μ h
    obtain ⟨ys, μ', e, q⟩ := compL_inv h4 st
    refine ⟨y :: ys, μ', ?_, by simpa using q⟩
    rw [z_compL, h1]
    simp only [h2, h3, e, z_bind_ok]
/-! ### data of texts -/
theorem pyds_strs : ∀ xs : List Str, pyds (xs.map D.str) = some (xs.map PyData.str)
  | [] => rfl
  | x :: xs => by rw [List.map_cons, pyds, pyds_strs xs]; rfl
theorem canLay_strs : ∀ {xs : List Str}, (∀ x ∈ xs, okS x) → PyData.canLayAll0 (xs.map PyData.str) = true
  | [], _ => by simp [PyData.canLayAll0]
  | x :: xs, h => by
    have h1 : PyData.strOk x = true := h x (by simp)
    simp only [List.map_cons, PyData.canLayAll0, PyData.canLay0, h1, canLay_strs (xs := xs) fun y hy => h y (by simp [hy]), Bool.and_self]
theorem depth_strs : ∀ (xs : List Str), PyData.depthAll (xs.map PyData.str) = 0
  | [] => by simp [PyData.depthAll]
  | x :: xs => by simp [PyData.depthAll, PyData.depth, depth_strs xs]
theorem shaped_tupS {xs : List Str} (h : ∀ x ∈ xs, okS x) : SeqAt.shaped (.tuple (xs.map PyData.str)) = true := by
  simp [SeqAt.shaped, PyData.canLay0, PyData.depth, canLay_strs h, depth_strs]
theorem shaped_lstS {xs : List Str} (h : ∀ x ∈ xs, okS x) : SeqAt.shaped (.list (xs.map PyData.str)) = true := by
  simp [SeqAt.shaped, PyData.canLay0, PyData.depth, canLay_strs h, depth_strs]
theorem shaped_str {x : Str} (h : okS x) : SeqAt.shaped (.str x) = true := by
  unfold okS at h
  simp [SeqAt.shaped, PyData.canLay0, PyData.depth, h]
theorem any_strs (xs : List Str) (x : Str) : ((xs.map PyData.str).any fun z => PyData.eqv z (.str x)) = decide (x ∈ xs) := by
  induction xs with
  | nil => simp
  | cons y ys ih =>
    rw [List.map_cons, List.any_cons, ih]
    simp only [PyData.eqv, beqS_dec]
    by_cases h : y = x
    · simp [h]
    · have h2 : ¬ x = y := fun z => h z.symm
      simp [h, h2]
theorem inD_tupS {μ : Sto} {x : Str} {xs : List Str} (h1 : okS x) (h : ∀ x ∈ xs, okS x) : inD μ (.str x) (.tup (xs.map D.str)) = some (decide (x ∈ xs)) := by
  simp only [inD, pyd, pyds_strs, shaped_str h1, shaped_tupS h, Bool.and_self, if_true, any_strs]
theorem inD_lstS {μ : Sto} {x : Str} {xs : List Str} (h1 : okS x) (h : ∀ x ∈ xs, okS x) : inD μ (.str x) (.lst (xs.map D.str)) = some (decide (x ∈ xs)) := by
  simp only [inD, pyd, pyds_strs, shaped_str h1, shaped_lstS h, Bool.and_self, if_true, any_strs]
theorem inD_locS {μ : Sto} {n : Nat} {x : Str} {xs : List Str} (hm : μ[n]? = some (.lst (xs.map D.str))) (h1 : okS x) (h : ∀ x ∈ xs, okS x) : inD μ (.str x) (.loc n) = some (decide (x ∈ xs)) := by
  simp only [inD, hm, pyd, pyds_strs, shaped_str h1, shaped_lstS h, Bool.and_self, if_true, any_strs]
theorem inD_sign {μ : Sto} {c : Nat} {y : Str} : inD μ (.str ⟨#[c]⟩) (.str y) = some (decide (c ∈ y.cps.toList)) := rfl
end MP

set_option Elab.async false
set_option linter.all false
set_option maxRecDepth 100000
set_option maxHeartbeats 4000000
/-! printed from the row's text -/
namespace K85
open PySem PySem.Spec PyProof.Rows L2 NdefX MP
def top (i : Nat) : Stmt := PySem.Challenge.pw_meetcounts_k85_whole_texts.main.body.getD i (.Pass ⟨0, 0, 0, 0⟩)
def c_LETTERS : D := (.str "abcdefghijklmnopqrstuvwxyz")
def c_MOST_LETTERS : D := (.int 8)
def c_WORDS : D := (.tup ((["all", "book", "can", "case", "count", "day", "days", "how", "is", "met", "never", "no", "none", "not", "of", "open", "or", "people", "quit", "strike", "sure", "tell", "undo", "web", "yes"] : List Str).map D.str))
def c_FIGURES : D := (.str "0123456789")
def c_MOST_FIGURES : D := (.int 400)
def c_PERSON : D := (.str "person")
def c_MET : D := (.str "met")
def c_NOT : D := (.str "not")
def c_MOST_COUNT : D := (.int 7)
def c_MOST_PEOPLE : D := (.int 8)
structure Fc (g : G) (mg : Str → Option Value) : Prop where
  n_abs : mg "abs" = none
  n_all : mg "all" = none
  n_bool : mg "bool" = none
  n_dict : mg "dict" = none
  n_divmod : mg "divmod" = none
  n_enumerate : mg "enumerate" = none
  n_int : mg "int" = none
  n_isinstance : mg "isinstance" = none
  n_len : mg "len" = none
  n_list : mg "list" = none
  n_max : mg "max" = none
  n_min : mg "min" = none
  n_range : mg "range" = none
  n_sorted : mg "sorted" = none
  n_str : mg "str" = none
  n_tuple : mg "tuple" = none
  n_zip : mg "zip" = none
  c_LETTERS : GlobV g mg "LETTERS" c_LETTERS
  c_MOST_LETTERS : GlobV g mg "MOST_LETTERS" c_MOST_LETTERS
  c_WORDS : GlobV g mg "WORDS" c_WORDS
  c_FIGURES : GlobV g mg "FIGURES" c_FIGURES
  c_MOST_FIGURES : GlobV g mg "MOST_FIGURES" c_MOST_FIGURES
  c_PERSON : GlobV g mg "PERSON" c_PERSON
  c_MET : GlobV g mg "MET" c_MET
  c_NOT : GlobV g mg "NOT" c_NOT
  c_MOST_COUNT : GlobV g mg "MOST_COUNT" c_MOST_COUNT
  c_MOST_PEOPLE : GlobV g mg "MOST_PEOPLE" c_MOST_PEOPLE
def lx_0 : Arguments × Expr × Scope := lamX (argX 3 (ifA (retX (stX 0 (defBody (top 19))))))
def lam_0 : Lam := ⟨lx_0.1, lx_0.2.1, lx_0.2.2, ["ahead", "each", "is_right"], ["ahead", "each"], ["is_right"]⟩
def lx_1 : Arguments × Expr × Scope := lamX (argX 3 (retX (stX 0 (defBody (top 36)))))
def lam_1 : Lam := ⟨lx_1.1, lx_1.2.1, lx_1.2.2, ["ahead", "each"], ["ahead", "each"], []⟩
def lx_2 : Arguments × Expr × Scope := lamX (argX 2 (retX (stX 0 (defBody (top 37)))))
def lam_2 : Lam := ⟨lx_2.1, lx_2.2.1, lx_2.2.2, ["each"], ["each"], []⟩
def lx_3 : Arguments × Expr × Scope := lamX (argX 3 (retX (stX 0 (defBody (top 39)))))
def lam_3 : Lam := ⟨lx_3.1, lx_3.2.1, lx_3.2.2, ["ahead", "each", "people", "others"], ["ahead", "each"], ["people", "others"]⟩
abbrev s_is_whole : Stmt := top 10
def b_is_whole : Sm := mRet (mAndV (m1 (dIsi .int) (mVal 0)) (mNotV (m1 (dIsi .bl) (mVal 0))))
def m_is_whole : List D → Sto → Rs D := runF (b_is_whole) 1
abbrev s_is_between : Stmt := top 11
def b_is_between : Sm := mRet (mAndV (mApp 1 m_is_whole (mCons (mVal 0) (mNil))) (mChain dLe dLe (mVal 1) (mVal 0) (mVal 2)))
def m_is_between : List D → Sto → Rs D := runF (b_is_between) 3
abbrev s_is_up_to : Stmt := top 12
def b_is_up_to : Sm := mRet (mApp 3 m_is_between (mCons (mVal 0) (mCons (mC (.int 0)) (mCons (mVal 1) (mNil)))))
def m_is_up_to : List D → Sto → Rs D := runF (b_is_up_to) 2
abbrev s_is_one_of : Stmt := top 13
def b_is_one_of : Sm := mRet (mAndV (m1 (dIsi .str) (mVal 0)) (m2 dIn (mVal 0) (mVal 1)))
def m_is_one_of : List D → Sto → Rs D := runF (b_is_one_of) 2
abbrev s_is_word : Stmt := top 14
def b_is_word : Sm := mRet (mAndV (m1 (dIsi .str) (mVal 0)) (mAndV (m2 dNe (mVal 0) (mC (.str ""))) (mCall dAll (mCons (mComp (mIt (mVal 0)) [1] (tName 1) (mTrue) (m2 dIn (mVal 1) (mC c_LETTERS))) (mNil)))))
def m_is_word : List D → Sto → Rs D := runF (b_is_word) 2
abbrev s_is_name : Stmt := top 15
def b_is_name : Sm := mRet (mAndV (mApp 1 m_is_word (mCons (mVal 0) (mNil))) (mAndV (m2 dLe (mCall dLen (mCons (mVal 0) (mNil))) (mC c_MOST_LETTERS)) (m2 dNotIn (mVal 0) (mC c_WORDS))))
def m_is_name : List D → Sto → Rs D := runF (b_is_name) 1
abbrev s_is_tuple_of : Stmt := top 16
def b_is_tuple_of : Sm := mRet (mAndV (m1 (dIsi .tup) (mVal 0)) (m2 dEq (mCall dLen (mCons (mVal 0) (mNil))) (mVal 1)))
def m_is_tuple_of : List D → Sto → Rs D := runF (b_is_tuple_of) 2
abbrev s_is_pair : Stmt := top 17
def b_is_pair : Sm := mRet (mApp 2 m_is_tuple_of (mCons (mVal 0) (mCons (mC (.int 2)) (mNil))))
def m_is_pair : List D → Sto → Rs D := runF (b_is_pair) 1
abbrev s_are_below : Stmt := top 20
def b_are_below : Sm := mRet (mOrV (m2 dEq (mVal 0) (mTup (mNil))) (m2 dLt (m2 dIx (mVal 0) (m1 dNeg (mC (.int 1)))) (mVal 1)))
def m_are_below : List D → Sto → Rs D := runF (b_are_below) 2
abbrev s_is_figures : Stmt := top 27
def b_is_figures : Sm := mSeq (mIf (mOr (mB (m2 dEq (mVal 0) (mC (.str "")))) (mOr (mNot (mB (mCall dAll (mCons (mComp (mIt (mVal 0)) [1] (tName 1) (mTrue) (m2 dIn (mVal 1) (mC c_FIGURES))) (mNil))))) (mB (m2 dGt (mCall dLen (mCons (mVal 0) (mNil))) (mC c_MOST_FIGURES))))) (mRet (mC (.bl false))) (mSkip)) (mRet (mOrV (m2 dEq (mVal 0) (mC (.str "0"))) (m2 dNe (m2 dIx (mVal 0) (mC (.int 0))) (mC (.str "0")))))
def m_is_figures : List D → Sto → Rs D := runF (b_is_figures) 2
abbrev s_told_row : Stmt := top 28
def b_told_row : Sm := mSeq (mSet 1 (mIfE (mB (m1 (dIsi .str) (mVal 0))) (mM1 dSplit (mVal 0) (mC (.str " "))) (mLst (mCons (mC (.str "")) (mNil))))) (mSeq (mIf (mOr (mB (m2 dNe (mCall dLen (mCons (mVal 1) (mNil))) (mC (.int 3)))) (mOr (mB (m2 dNotIn (m2 dIx (mVal 1) (mC (.int 0))) (mTup (mCons (mC c_PERSON) (mCons (mC c_MET) (mCons (mC c_NOT) (mNil))))))) (mNot (mB (mApp 1 m_is_word (mCons (m2 dIx (mVal 1) (mC (.int 1))) (mNil))))))) (mRet (mTup (mNil))) (mSkip)) (mSeq (mIf (mNot (mIfE (mB (m2 dEq (m2 dIx (mVal 1) (mC (.int 0))) (mC c_PERSON))) (mB (mApp 1 m_is_figures (mCons (m2 dIx (mVal 1) (mC (.int 2))) (mNil)))) (mB (mApp 1 m_is_word (mCons (m2 dIx (mVal 1) (mC (.int 2))) (mNil)))))) (mRet (mTup (mNil))) (mSkip)) (mRet (mCall dTuple (mCons (mVal 1) (mNil))))))
def m_told_row : List D → Sto → Rs D := runF (b_told_row) 2
abbrev s_place_of : Stmt := top 29
def b_place_of : Sm := mRet (mTupIx (mCons (mC c_PERSON) (mCons (mC c_MET) (mCons (mC c_NOT) (mNil)))) (m2 dIx (mVal 0) (mC (.int 0))))
def m_place_of : List D → Sto → Rs D := runF (b_place_of) 1
abbrev s_wrong_in_rows : Stmt := top 30
def b_wrong_in_rows : Sm := mSeq (mIf (mOr (mNot (mB (m1 (dIsi .tup) (mVal 0)))) (mB (m2 dEq (mVal 0) (mTup (mNil))))) (mRet (mLst (mCons (mC .non) (mNil)))) (mSkip)) (mSeq (mPar 1 2 (mCons (mComp (mIt (mVal 0)) [5] (tName 5) (mTrue) (mApp 1 m_told_row (mCons (mVal 5) (mNil)))) (mCons (mC (.int 0)) (mNil)))) (mSeq (mFor (mEnum (mCons (mVal 1) (mNil))) (tTup 2 (tCons (tName 3) (tCons (tName 4) (tNil)))) (mSeq (mIf (mOr (mB (m2 dEq (mVal 4) (mTup (mNil)))) (mB (m2 dLt (mApp 1 m_place_of (mCons (mVal 4) (mNil))) (mVal 2)))) (mRet (mLst (mCons (mVal 3) (mNil)))) (mSkip)) (mSet 2 (mApp 1 m_place_of (mCons (mVal 4) (mNil)))))) (mRet (mLst (mNil)))))
def m_wrong_in_rows : List D → Sto → Rs D := runF (b_wrong_in_rows) 6
abbrev s_rows_told : Stmt := top 31
def b_rows_told : Sm := mSeq (mSet 1 (mComp (mIt (mVal 0)) [5] (tName 5) (mTrue) (mApp 1 m_told_row (mCons (mVal 5) (mNil))))) (mSeq (mSet 2 (mCall dTuple (mCons (mComp (mIt (mVal 1)) [6] (tName 6) (mB (m2 dEq (m2 dIx (mVal 6) (mC (.int 0))) (mC c_PERSON))) (m2 dIx (mVal 6) (mC (.int 1)))) (mNil)))) (mSeq (mSet 3 (mCall dTuple (mCons (mComp (mIt (mVal 1)) [6] (tName 6) (mB (m2 dEq (m2 dIx (mVal 6) (mC (.int 0))) (mC c_PERSON))) (mCall dInt (mCons (m2 dIx (mVal 6) (mC (.int 2))) (mNil)))) (mNil)))) (mSeq (mSet 4 (mCall dTuple (mCons (mComp (mIt (mVal 1)) [6] (tName 6) (mB (m2 dEq (m2 dIx (mVal 6) (mC (.int 0))) (mC c_MET))) (mSl (mVal 6) (mPart (mC (.int 1))) (mNo))) (mNil)))) (mRet (mTup (mCons (mVal 2) (mCons (mVal 3) (mCons (mVal 4) (mCons (mCall dTuple (mCons (mComp (mIt (mVal 1)) [6] (tName 6) (mB (m2 dEq (m2 dIx (mVal 6) (mC (.int 0))) (mC c_NOT))) (mSl (mVal 6) (mPart (mC (.int 1))) (mNo))) (mNil))) (mNil))))))))))
def m_rows_told : List D → Sto → Rs D := runF (b_rows_told) 7
abbrev s_rows_by : Stmt := top 32
def b_rows_by : Sm := mSeq (mSet 4 (mComp (mZip (mCons (mVal 0) (mCons (mVal 1) (mNil)))) [5, 6] (tTup 2 (tCons (tName 5) (tCons (tName 6) (tNil)))) (mTrue) (mJoined [m1 dFmt (mC c_PERSON), mC (.str " "), m1 dFmt (mVal 5), mC (.str " "), m1 dFmt (mVal 6)]))) (mSeq (mSet 4 (m2 dAdd (mVal 4) (mComp (mIt (mVal 2)) [7, 8] (tTup 2 (tCons (tName 7) (tCons (tName 8) (tNil)))) (mTrue) (mJoined [m1 dFmt (mC c_MET), mC (.str " "), m1 dFmt (mVal 7), mC (.str " "), m1 dFmt (mVal 8)])))) (mRet (mCall dTuple (mCons (m2 dAdd (mVal 4) (mComp (mIt (mVal 3)) [7, 8] (tTup 2 (tCons (tName 7) (tCons (tName 8) (tNil)))) (mTrue) (mJoined [m1 dFmt (mC c_NOT), mC (.str " "), m1 dFmt (mVal 7), mC (.str " "), m1 dFmt (mVal 8)]))) (mNil)))))
def m_rows_by : List D → Sto → Rs D := runF (b_rows_by) 9
abbrev s_is_meeting : Stmt := top 38
def b_is_meeting : Sm := mSeq (mIf (mOr (mNot (mB (mApp 1 m_is_pair (mCons (mVal 1) (mNil))))) (mOr (mNot (mB (mApp 2 m_is_one_of (mCons (m2 dIx (mVal 1) (mC (.int 0))) (mCons (mVal 0) (mNil)))))) (mNot (mB (mApp 2 m_is_one_of (mCons (m2 dIx (mVal 1) (mC (.int 1))) (mCons (mVal 0) (mNil)))))))) (mRet (mC (.bl false))) (mSkip)) (mRet (m2 dLt (m2 dIx (mVal 1) (mC (.int 0))) (m2 dIx (mVal 1) (mC (.int 1)))))
def m_is_meeting : List D → Sto → Rs D := runF (b_is_meeting) 2
abbrev s__law_well : Stmt := top 50
def b__law_well : Sm := mSeq (mSet 2 (m2 dAdd (mC (.int 704969)) (m2 dMul (mC (.int 6121)) (mVal 1)))) (mSeq (mFor (mIt (mSl (mVal 0) (mNo) (mPart (mC (.int 16))))) (tName 3) (mSet 2 (m2 dMod (mCall dInt (mCons (m2 dAdd (m2 dAdd (m2 dMul (mVal 2) (mC (.int 48271))) (m2 dMod (mCall dInt (mCons (mVal 3) (mNil))) (mC (.int 2147483549)))) (mC (.int 23))) (mNil))) (mC (.int 2147483587))))) (mSeq (mSet 4 (mIfE (mB (m2 dLt (mVal 1) (mCall dLen (mCons (mVal 0) (mNil))))) (mCall dInt (mCons (m2 dIx (mVal 0) (mVal 1)) (mNil))) (mC (.int 0)))) (mSeq (mSet 2 (m2 dMod (mCall dInt (mCons (m2 dAdd (m2 dAdd (m2 dMul (mVal 2) (mC (.int 53))) (m2 dMul (m2 dMod (mCall dInt (mCons (mVal 4) (mNil))) (mC (.int 2147483549))) (mC (.int 15013)))) (mC (.int 11))) (mNil))) (mC (.int 2147483587)))) (mRet (mLoc (mCons (mIfE (mOr (mB (m2 dLt (mVal 4) (mC (.int 0)))) (mB (m2 dGe (mVal 4) (m2 dPow (mC (.int 10)) (mC (.int 15)))))) (mCall dAbs (mCons (mVal 4) (mNil))) (mC (.int 0))) (mCons (mVal 2) (mCons (mC (.int 0)) (mNil)))))))))
def m__law_well : List D → Sto → Rs D := runF (b__law_well) 5
abbrev s__law_draw : Stmt := top 51
def b__law_draw : Sm := mSeq (mIf (mB (m2 dGt (m2 dIx (mVal 0) (mC (.int 0))) (mC (.int 0)))) (mSeq (mAsg (mCall dDivmod (mCons (m2 dIx (mVal 0) (mC (.int 0))) (mCons (mVal 1) (mNil)))) (uTup 2 (uCons (uSub (mVal 0) (mC (.int 0))) (uCons (uName 2) (uNil))))) (mRet (mVal 2))) (mSkip)) (mSeq (mAsg (m2 dAdd (m2 dIx (mVal 0) (mC (.int 2))) (mC (.int 1))) (uSub (mVal 0) (mC (.int 2)))) (mSeq (mSet 3 (m2 dMod (mCall dInt (mCons (m2 dAdd (m2 dAdd (m2 dMul (m2 dIx (mVal 0) (mC (.int 1))) (mC (.int 40009))) (m2 dMul (mC (.int 15013)) (m2 dIx (mVal 0) (mC (.int 2))))) (mC (.int 3))) (mNil))) (mC (.int 2147483587)))) (mSeq (mAsg (m2 dMod (mCall dInt (mCons (m2 dAdd (m2 dMul (mVal 3) (m2 dAdd (m2 dMod (mCall dInt (mCons (mVal 3) (mNil))) (mC (.int 5003))) (mC (.int 20011)))) (m2 dIx (mVal 0) (mC (.int 2)))) (mNil))) (mC (.int 2147483587))) (uSub (mVal 0) (mC (.int 1)))) (mRet (m2 dMod (mCall dInt (mCons (m2 dDiv (m2 dIx (mVal 0) (mC (.int 1))) (mC (.int 1031))) (mNil))) (mVal 1))))))
def m__law_draw : List D → Sto → Rs D := runF (b__law_draw) 4
abbrev s__law_of : Stmt := top 52
def b__law_of : Sm := mRet (m2 dIx (mVal 1) (mApp 2 m__law_draw (mCons (mVal 0) (mCons (mCall dLen (mCons (mVal 1) (mNil))) (mNil)))))
def m__law_of : List D → Sto → Rs D := runF (b__law_of) 2
abbrev s__law_same : Stmt := top 53
def b__law_same (R : List D → Sto → Rs D) : Sm := mSeq (mIf (mB (m1 (dIsi .tup) (mVal 1))) (mSeq (mIf (mOr (mNot (mB (m1 (dIsi .tup) (mVal 0)))) (mB (m2 dNe (mCall dLen (mCons (mVal 0) (mNil))) (mCall dLen (mCons (mVal 1) (mNil)))))) (mRet (mC (.bl false))) (mSkip)) (mRet (mCall dAll (mCons (mComp (mRange1 (mCons (mCall dLen (mCons (mVal 1) (mNil))) (mNil))) [3] (tName 3) (mTrue) (mApp 2 R (mCons (m2 dIx (mVal 0) (mVal 3)) (mCons (m2 dIx (mVal 1) (mVal 3)) (mNil))))) (mNil))))) (mSkip)) (mSeq (mIf (mB (m1 (dIsi .bl) (mVal 1))) (mRet (mAndV (m1 (dIsi .bl) (mVal 0)) (m2 dEq (mVal 0) (mVal 1)))) (mSkip)) (mSeq (mIf (mB (m1 (dIsi .int) (mVal 1))) (mRet (mAndV (m1 (dIsi .int) (mVal 0)) (mAndV (mNotV (m1 (dIsi .bl) (mVal 0))) (m2 dEq (mVal 0) (mVal 1))))) (mSkip)) (mSeq (mIf (mB (m1 (dIsi .str) (mVal 1))) (mRet (mAndV (m1 (dIsi .str) (mVal 0)) (m2 dEq (mVal 0) (mVal 1)))) (mSkip)) (mSeq (mIf (mB (m2 dIs (mVal 1) (mC .non))) (mRet (m2 dIs (mVal 0) (mC .non))) (mSkip)) (mSeq (mSet 2 (mAndV (m2 dEq (m1 (dIsi .lst) (mVal 0)) (m1 (dIsi .lst) (mVal 1))) (m2 dEq (m1 (dIsi .dct) (mVal 0)) (m1 (dIsi .dct) (mVal 1))))) (mRet (mAndV (mVal 2) (mAndV (mNotV (m1 (dIsi .tup) (mVal 0))) (m2 dIs (m2 dEq (mVal 0) (mVal 1)) (mC (.bl true)))))))))))
def m__law_same_ : Nat → List D → Sto → Rs D
  | 0 => fun _ _ => .er
  | n + 1 => runF (b__law_same (m__law_same_ n)) 4
def m__law_same : List D → Sto → Rs D := m__law_same_ 8
abbrev s__law_words : Stmt := top 54
def b__law_words : Sm := mSeq (mSet 0 (mC (.str "all book can case count day days how is met never no none not of open or people quit strike sure tell"))) (mRet (mM1 dSplit (m2 dAdd (mVal 0) (mC (.str " undo web yes"))) (mC (.str " "))))
def m__law_words : List D → Sto → Rs D := runF (b__law_words) 1
abbrev s__law_names : Stmt := top 55
def b__law_names : Sm := mSeq (mPar 2 3 (mCons (mC (.str "abcdefghijklmnopqrstuvwxyz")) (mCons (mLoc (mNil)) (mNil)))) (mSeq (mFor (mRange1 (mCons (mVal 1) (mNil))) (tName 4) (mSeq (mPar 5 6 (mCons (mC (.str "")) (mCons (mApp 2 m__law_of (mCons (mVal 0) (mCons (mTup (mCons (mC (.int 0)) (mCons (mC (.int 0)) (mCons (mC (.int 1)) (mCons (mC (.int 2)) (mCons (mC (.int 3)) (mCons (mC (.int 7)) (mNil)))))))) (mNil)))) (mNil)))) (mSeq (mFor (mRange1 (mCons (mVal 6) (mNil))) (tName 7) (mSet 5 (m2 dAdd (mVal 5) (mApp 2 m__law_of (mCons (mVal 0) (mCons (mVal 2) (mNil))))))) (mSeq (mSet 8 (mApp 2 m__law_draw (mCons (mVal 0) (mCons (m2 dAdd (mVal 6) (mC (.int 1))) (mNil))))) (mSeq (mSet 5 (m2 dAdd (m2 dAdd (mSl (mVal 5) (mNo) (mPart (mVal 8))) (m2 dIx (mVal 2) (mVal 4))) (mSl (mVal 5) (mPart (mVal 8)) (mNo)))) (mDo (mAppend (mIsLoc (mVal 3)) (mIfE (mOr (mB (m2 dIn (mVal 5) (mVal 3))) (mB (m2 dIn (mVal 5) (mApp0 m__law_words)))) (m2 dMul (m2 dIx (mVal 2) (mVal 4)) (mC (.int 8))) (mVal 5))))))))) (mRet (mCall dTuple (mCons (mCall dSorted (mCons (mVal 3) (mNil))) (mNil)))))
def m__law_names : List D → Sto → Rs D := runF (b__law_names) 9
abbrev s__law_pairs : Stmt := top 56
def b__law_pairs : Sm := mSeq (mSet 1 (mLst (mNil))) (mSeq (mFor (mRange1 (mCons (mCall dLen (mCons (mVal 0) (mNil))) (mNil))) (tName 2) (mSet 1 (m2 dAdd (mVal 1) (mComp (mIt (mSl (mVal 0) (mPart (m2 dAdd (mVal 2) (mC (.int 1)))) (mNo))) [3] (tName 3) (mTrue) (mTup (mCons (m2 dIx (mVal 0) (mVal 2)) (mCons (mVal 3) (mNil)))))))) (mRet (mVal 1)))
def m__law_pairs : List D → Sto → Rs D := runF (b__law_pairs) 4
abbrev s__law_two_rows : Stmt := top 57
def b__law_two_rows : Sm := mSeq (mPar 2 3 (mCons (mLst (mNil)) (mCons (mLst (mNil)) (mNil)))) (mSeq (mFor (mIt (mApp 1 m__law_pairs (mCons (mVal 1) (mNil)))) (tName 4) (mSeq (mSet 5 (mApp 2 m__law_draw (mCons (mVal 0) (mCons (mC (.int 6)) (mNil))))) (mPar 2 3 (mCons (m2 dAdd (mVal 2) (mIfE (mB (m2 dEq (mVal 5) (mC (.int 0)))) (mLst (mCons (mVal 4) (mNil))) (mLst (mNil)))) (mCons (m2 dAdd (mVal 3) (mIfE (mB (m2 dEq (mVal 5) (mC (.int 1)))) (mLst (mCons (mVal 4) (mNil))) (mLst (mNil)))) (mNil)))))) (mRet (mTup (mCons (mCall dTuple (mCons (mVal 2) (mNil))) (mCons (mCall dTuple (mCons (mVal 3) (mNil))) (mNil))))))
def m__law_two_rows : List D → Sto → Rs D := runF (b__law_two_rows) 6
abbrev s__law_rows : Stmt := top 58
def b__law_rows : Sm := mSeq (mSet 4 (mComp (mRange1 (mCons (mCall dLen (mCons (mVal 0) (mNil))) (mNil))) [5] (tName 5) (mTrue) (m2 dAdd (m2 dAdd (m2 dAdd (mC (.str "person ")) (m2 dIx (mVal 0) (mVal 5))) (mC (.str " "))) (mCall dStr (mCons (m2 dIx (mVal 1) (mVal 5)) (mNil)))))) (mRet (mCall dTuple (mCons (m2 dAdd (m2 dAdd (mVal 4) (mComp (mIt (mVal 2)) [6, 7] (tTup 2 (tCons (tName 6) (tCons (tName 7) (tNil)))) (mTrue) (m2 dAdd (m2 dAdd (m2 dAdd (mC (.str "met ")) (mVal 6)) (mC (.str " "))) (mVal 7)))) (mComp (mIt (mVal 3)) [6, 7] (tTup 2 (tCons (tName 6) (tCons (tName 7) (tNil)))) (mTrue) (m2 dAdd (m2 dAdd (m2 dAdd (mC (.str "not ")) (mVal 6)) (mC (.str " "))) (mVal 7)))) (mNil))))
def m__law_rows : List D → Sto → Rs D := runF (b__law_rows) 8
def bl_0 (T : CT) : Ex D := mClo 2 T (mCons (mVal 1) (mNil))
def bl_1 : Ex D := mAndV (mApp 1 m_is_name (mCons (mVal 1) (mNil))) (mApp 2 m_are_below (mCons (mVal 0) (mCons (mVal 1) (mNil))))
def bl_2 : Ex D := mApp 2 m_is_up_to (mCons (mVal 0) (mCons (mC c_MOST_COUNT) (mNil)))
def bl_3 : Ex D := mAndV (mApp 2 m_is_meeting (mCons (mVal 2) (mCons (mVal 1) (mNil)))) (mAndV (mApp 2 m_are_below (mCons (mVal 0) (mCons (mVal 1) (mNil)))) (m2 dNotIn (mVal 1) (mVal 3)))
def Tn : Nat → CT
  | 0 => fun _ _ _ _ => .er
  | n + 1 => fun k => match k with
    | 0 => runL 2 3 (bl_0 (Tn n))
    | 1 => runL 2 2 (bl_1)
    | 2 => runL 1 1 (bl_2)
    | 3 => runL 2 4 (bl_3)
    | _ => fun _ _ _ => .er
def T : CT := Tn 2
abbrev s_wrong_in : Stmt := top 18
def b_wrong_in (T : CT) : Sm := mSeq (mIf (mOr (mNot (mB (m1 (dIsi .tup) (mVal 0)))) (mB (m2 dLt (mCall dLen (mCons (mVal 0) (mNil))) (mVal 1)))) (mRet (mLst (mCons (mC .non) (mNil)))) (mSkip)) (mSeq (mFor (mEnum (mCons (mVal 0) (mNil))) (tTup 2 (tCons (tName 4) (tCons (tName 5) (tNil)))) (mIf (mOr (mB (m2 dEq (mVal 4) (mVal 2))) (mNot (mB (mClo 3 T (mCons (mSl (mVal 0) (mNo) (mPart (mVal 4))) (mCons (mVal 5) (mNil))))))) (mRet (mLst (mCons (mVal 4) (mNil)))) (mSkip))) (mRet (mLst (mNil))))
def m_wrong_in (T : CT) : List D → Sto → Rs D := runF (b_wrong_in T) 6
abbrev s_wrong_in_all : Stmt := top 19
def b_wrong_in_all (T : CT) : Sm := mRet (mIfE (mB (mApp 2 m_is_tuple_of (mCons (mVal 0) (mCons (mVal 1) (mNil))))) (mAppL 4 (m_wrong_in T) 0 [2] (mCons (mVal 0) (mCons (mVal 1) (mCons (mVal 1) (mNil))))) (mLst (mCons (mC .non) (mNil))))
def m_wrong_in_all (T : CT) : List D → Sto → Rs D := runF (b_wrong_in_all T) 3
abbrev s_wrong_in_people : Stmt := top 36
def b_wrong_in_people : Sm := mRet (mAppL 4 (m_wrong_in T) 1 [] (mCons (mVal 0) (mCons (mC (.int 1)) (mCons (mC c_MOST_PEOPLE) (mNil)))))
def m_wrong_in_people : List D → Sto → Rs D := runF (b_wrong_in_people) 1
abbrev s_wrong_in_counts : Stmt := top 37
def b_wrong_in_counts : Sm := mRet (mAppL 3 (m_wrong_in_all T) 2 [] (mCons (mVal 1) (mCons (mCall dLen (mCons (mVal 0) (mNil))) (mNil))))
def m_wrong_in_counts : List D → Sto → Rs D := runF (b_wrong_in_counts) 2
abbrev s_wrong_in_meetings : Stmt := top 39
def b_wrong_in_meetings : Sm := mRet (mAppL 4 (m_wrong_in T) 3 [0, 2] (mCons (mVal 1) (mCons (mC (.int 0)) (mCons (mC .non) (mNil)))))
def m_wrong_in_meetings : List D → Sto → Rs D := runF (b_wrong_in_meetings) 3
abbrev s_check_people : Stmt := top 41
def b_check_people : Sm := mFor (mIt (mApp 1 m_wrong_in_people (mCons (mVal 0) (mNil)))) (tName 1) (mEr)
def m_check_people : List D → Sto → Rs D := runF (b_check_people) 2
abbrev s_check_counts : Stmt := top 42
def b_check_counts : Sm := mSeq (mDo (mApp 1 m_check_people (mCons (mVal 0) (mNil)))) (mFor (mIt (mApp 2 m_wrong_in_counts (mCons (mVal 0) (mCons (mVal 1) (mNil))))) (tName 2) (mEr))
def m_check_counts : List D → Sto → Rs D := runF (b_check_counts) 3
abbrev s_check_yes_no : Stmt := top 44
def b_check_yes_no : Sm := mSeq (mFor (mIt (mApp 3 m_wrong_in_meetings (mCons (mVal 0) (mCons (mVal 1) (mCons (mTup (mNil)) (mNil)))))) (tName 3) (mEr)) (mFor (mIt (mApp 3 m_wrong_in_meetings (mCons (mVal 0) (mCons (mVal 2) (mCons (mVal 1) (mNil)))))) (tName 3) (mEr))
def m_check_yes_no : List D → Sto → Rs D := runF (b_check_yes_no) 4
abbrev s_check_told : Stmt := top 45
def b_check_told : Sm := mSeq (mDo (mApp 2 m_check_counts (mCons (mVal 0) (mCons (mVal 1) (mNil))))) (mDo (mApp 3 m_check_yes_no (mCons (mVal 0) (mCons (mVal 2) (mCons (mVal 3) (mNil))))))
def m_check_told : List D → Sto → Rs D := runF (b_check_told) 4
abbrev s_told_rows : Stmt := top 47
def b_told_rows : Sm := mSeq (mDo (mApp 4 m_check_told (mCons (mVal 0) (mCons (mVal 1) (mCons (mVal 2) (mCons (mVal 3) (mNil))))))) (mRet (mApp 4 m_rows_by (mCons (mVal 0) (mCons (mVal 1) (mCons (mVal 2) (mCons (mVal 3) (mNil)))))))
def m_told_rows : List D → Sto → Rs D := runF (b_told_rows) 4
abbrev s_read_told : Stmt := top 48
def b_read_told : Sm := mSeq (mFor (mIt (mApp 1 m_wrong_in_rows (mCons (mVal 0) (mNil)))) (tName 1) (mEr)) (mSeq (mAsg (mApp 1 m_rows_told (mCons (mVal 0) (mNil))) (uTup 4 (uCons (uName 2) (uCons (uName 3) (uCons (uName 4) (uCons (uName 5) (uNil))))))) (mSeq (mDo (mApp 4 m_check_told (mCons (mVal 2) (mCons (mVal 3) (mCons (mVal 4) (mCons (mVal 5) (mNil))))))) (mRet (mTup (mCons (mVal 2) (mCons (mVal 3) (mCons (mVal 4) (mCons (mVal 5) (mNil)))))))))
def m_read_told : List D → Sto → Rs D := runF (b_read_told) 6
abbrev s__law_right : Stmt := top 59
def b__law_right : Sm := mSeq (mSet 1 (mApp 2 m__law_names (mCons (mVal 0) (mCons (m2 dAdd (mC (.int 1)) (mApp 2 m__law_draw (mCons (mVal 0) (mCons (mC (.int 8)) (mNil))))) (mNil))))) (mSeq (mPar 2 3 (mCons (mCall dTuple (mCons (mComp (mIt (mVal 1)) [7] (tName 7) (mTrue) (mApp 2 m__law_draw (mCons (mVal 0) (mCons (mC (.int 8)) (mNil))))) (mNil))) (mCons (mApp 2 m__law_two_rows (mCons (mVal 0) (mCons (mVal 1) (mNil)))) (mNil)))) (mSeq (mAsg (mIfE (mB (m2 dGt (mApp 2 m__law_draw (mCons (mVal 0) (mCons (mC (.int 4)) (mNil)))) (mC (.int 0)))) (mVal 3) (mTup (mCons (mTup (mNil)) (mCons (mTup (mNil)) (mNil))))) (uTup 2 (uCons (uName 4) (uCons (uName 5) (uNil))))) (mSeq (mSet 6 (mApp 4 m__law_rows (mCons (mVal 1) (mCons (mVal 2) (mCons (mVal 4) (mCons (mVal 5) (mNil))))))) (mSeq (mIf (mNot (mB (mApp 2 m__law_same (mCons (mTup (mCons (mApp 4 m_told_rows (mCons (mVal 1) (mCons (mVal 2) (mCons (mVal 4) (mCons (mVal 5) (mNil)))))) (mCons (mAppK 0 4 [3, 2, 1, 0] m_told_rows mNil (mCons (mVal 5) (mCons (mVal 4) (mCons (mVal 2) (mCons (mVal 1) (mNil)))))) (mNil)))) (mCons (mTup (mCons (mVal 6) (mCons (mVal 6) (mNil)))) (mNil)))))) (mRet (mC (.bl false))) (mSkip)) (mRet (mApp 2 m__law_same (mCons (mTup (mCons (mApp 1 m_read_told (mCons (mVal 6) (mNil))) (mCons (mAppK 0 1 [0] m_read_told mNil (mCons (mVal 6) (mNil))) (mNil)))) (mCons (m2 dMul (mTup (mCons (mTup (mCons (mVal 1) (mCons (mVal 2) (mCons (mVal 4) (mCons (mVal 5) (mNil)))))) (mNil))) (mC (.int 2))) (mNil)))))))))
def m__law_right : List D → Sto → Rs D := runF (b__law_right) 8
abbrev s_law : Stmt := top 60
def b_law : Sm := mSeq (mSet 1 (mComp (mRange1 (mCons (mCall dMax2 (mCons (mC (.int 1)) (mCons (mCall dMin2 (mCons (mCall dLen (mCons (mVal 0) (mNil))) (mCons (mC (.int 3)) (mNil)))) (mNil)))) (mNil))) [2] (tName 2) (mTrue) (mApp 2 m__law_well (mCons (mVal 0) (mCons (mVal 2) (mNil)))))) (mRet (mCall dAll (mCons (mComp (mRange1 (mCons (mC (.int 15)) (mNil))) [2] (tName 2) (mTrue) (mApp 1 m__law_right (mCons (m2 dIx (mVal 1) (m2 dMod (mCall dInt (mCons (mVal 2) (mNil))) (mCall dLen (mCons (mVal 1) (mNil))))) (mNil)))) (mNil))))
def m_law : List D → Sto → Rs D := runF (b_law) 3
theorem sc_is_whole : FnScope ["value"] ["value"] (defScope s_is_whole) := C8.fnScope_by (by decide +kernel)
theorem def_is_whole {g : G} {P : Program} {w : World} {mg : Str → Option Value} {base : Heap} (F : Fc g mg) {c : Addr} (D0 : DefOk g.K mg "is_whole" s_is_whole c) : ∃ (f : Addr) (fd : FuncData), FnOk P w g.K mg base (L2.CX P w) 1 f fd ["value"] (spF g 1 m_is_whole) ∧ mg "is_whole" = some (.ref f) ∧ PySem.W.keepIn g.K (.ref f) = true ∧ Binds g.K fd ["value"] [] ∧ L2.Fun g.K "is_whole" "is_whole" s_is_whole f fd := by
  refine fn_def (N := ["value"]) (ps := ["value"]) (k := 0) (b := b_is_whole) D0 sc_is_whole (fun _ _ _ _ _ _ us hl => match us, hl with | [_], _ => rfl) fun f A outer s H E hr tk => ?_
  exact ss_one (s_ret (e_and (e_isi (n := .int) rfl rfl F.n_isinstance rfl F.n_int rfl (lk (ev 0))) (e_one (e_not (e_isi (n := .bl) rfl rfl F.n_isinstance rfl F.n_bool rfl (lk (ev 0)))))))
theorem sc_is_between : FnScope ["value", "least", "most"] ["value", "least", "most"] (defScope s_is_between) := C8.fnScope_by (by decide +kernel)
theorem def_is_between {g : G} {P : Program} {w : World} {mg : Str → Option Value} {base : Heap} (F : Fc g mg) {c : Addr} (D0 : DefOk g.K mg "is_between" s_is_between c) (c_is_whole : Fn g P w mg base 1 "is_whole" 1 m_is_whole) : ∃ (f : Addr) (fd : FuncData), FnOk P w g.K mg base (L2.CX P w) 2 f fd ["value", "least", "most"] (spF g 3 m_is_between) ∧ mg "is_between" = some (.ref f) ∧ PySem.W.keepIn g.K (.ref f) = true ∧ Binds g.K fd ["value", "least", "most"] [] ∧ L2.Fun g.K "is_between" "is_between" s_is_between f fd := by
  refine fn_def (N := ["value", "least", "most"]) (ps := ["value", "least", "most"]) (k := 1) (b := b_is_between) D0 sc_is_between (fun _ _ _ _ _ _ us hl => match us, hl with | [_, _, _], _ => rfl) fun f A outer s H E hr tk => ?_
  exact ss_one (s_ret (e_and (c_fn c_is_whole rfl tk hr (by decide) rfl (d_cons (ev 0) (d_nil))) (e_one (e_chain o_le o_le v_le v_le (lk (ev 1)) (lk (ev 0)) (lk (ev 2))))))
theorem sc_is_up_to : FnScope ["value", "most"] ["value", "most"] (defScope s_is_up_to) := C8.fnScope_by (by decide +kernel)
theorem def_is_up_to {g : G} {P : Program} {w : World} {mg : Str → Option Value} {base : Heap} (F : Fc g mg) {c : Addr} (D0 : DefOk g.K mg "is_up_to" s_is_up_to c) (c_is_between : Fn g P w mg base 2 "is_between" 3 m_is_between) : ∃ (f : Addr) (fd : FuncData), FnOk P w g.K mg base (L2.CX P w) 3 f fd ["value", "most"] (spF g 2 m_is_up_to) ∧ mg "is_up_to" = some (.ref f) ∧ PySem.W.keepIn g.K (.ref f) = true ∧ Binds g.K fd ["value", "most"] [] ∧ L2.Fun g.K "is_up_to" "is_up_to" s_is_up_to f fd := by
  refine fn_def (N := ["value", "most"]) (ps := ["value", "most"]) (k := 2) (b := b_is_up_to) D0 sc_is_up_to (fun _ _ _ _ _ _ us hl => match us, hl with | [_, _], _ => rfl) fun f A outer s H E hr tk => ?_
  exact ss_one (s_ret (c_fn c_is_between rfl tk hr (by decide) rfl (d_cons (ev 0) (d_cons (e_int) (d_cons (ev 1) (d_nil))))))
theorem sc_is_one_of : FnScope ["value", "words"] ["value", "words"] (defScope s_is_one_of) := C8.fnScope_by (by decide +kernel)
theorem def_is_one_of {g : G} {P : Program} {w : World} {mg : Str → Option Value} {base : Heap} (F : Fc g mg) {c : Addr} (D0 : DefOk g.K mg "is_one_of" s_is_one_of c) : ∃ (f : Addr) (fd : FuncData), FnOk P w g.K mg base (L2.CX P w) 1 f fd ["value", "words"] (spF g 2 m_is_one_of) ∧ mg "is_one_of" = some (.ref f) ∧ PySem.W.keepIn g.K (.ref f) = true ∧ Binds g.K fd ["value", "words"] [] ∧ L2.Fun g.K "is_one_of" "is_one_of" s_is_one_of f fd := by
  refine fn_def (N := ["value", "words"]) (ps := ["value", "words"]) (k := 0) (b := b_is_one_of) D0 sc_is_one_of (fun _ _ _ _ _ _ us hl => match us, hl with | [_, _], _ => rfl) fun f A outer s H E hr tk => ?_
  exact ss_one (s_ret (e_and (e_isi (n := .str) rfl rfl F.n_isinstance rfl F.n_str rfl (lk (ev 0))) (e_one (e_cmp (o_in (units hr)) v_in (lk (ev 0)) (lk (ev 1)) (by rfl)))))
theorem sc_is_word : FnScope ["value", "sign"] ["value"] (defScope s_is_word) := C8.fnScope_by (by decide +kernel)
theorem def_is_word {g : G} {P : Program} {w : World} {mg : Str → Option Value} {base : Heap} (F : Fc g mg) {c : Addr} (D0 : DefOk g.K mg "is_word" s_is_word c) : ∃ (f : Addr) (fd : FuncData), FnOk P w g.K mg base (L2.CX P w) 1 f fd ["value"] (spF g 1 m_is_word) ∧ mg "is_word" = some (.ref f) ∧ PySem.W.keepIn g.K (.ref f) = true ∧ Binds g.K fd ["value"] [] ∧ L2.Fun g.K "is_word" "is_word" s_is_word f fd := by
  refine fn_def (N := ["value", "sign"]) (ps := ["value"]) (k := 0) (b := b_is_word) D0 sc_is_word (fun _ _ _ _ _ _ us hl => match us, hl with | [_], _ => rfl) fun f A outer s H E hr tk => ?_
  exact ss_one (s_ret (e_and (e_isi (n := .str) rfl rfl F.n_isinstance rfl F.n_str rfl (lk (ev 0))) (e_and (e_cmp (op_neD (units64 hr)) v_ne (lk (ev 0)) (lk (e_str)) (by rfl)) (e_one (e_callB (cr_all rfl) v_all rfl F.n_all (by decide +kernel) (a_cons (lk (eLc sc_is_word.nd [("sign", 1)] rfl (i_any rfl (ev 0)) (fun _ _ _ _ _ => gN 1 sc_is_word.nd) (fun _ _ _ _ _ => pts0) (fun _ _ _ _ _ => e_cmp (o_in (units hr)) v_in (lk (ev 1)) (lk (e_glob rfl F.c_LETTERS)) (by rfl)) (fun _ h => h))) (a_nil)))))))
theorem sc_is_name : FnScope ["value"] ["value"] (defScope s_is_name) := C8.fnScope_by (by decide +kernel)
theorem def_is_name {g : G} {P : Program} {w : World} {mg : Str → Option Value} {base : Heap} (F : Fc g mg) {c : Addr} (D0 : DefOk g.K mg "is_name" s_is_name c) (c_is_word : Fn g P w mg base 1 "is_word" 1 m_is_word) : ∃ (f : Addr) (fd : FuncData), FnOk P w g.K mg base (L2.CX P w) 2 f fd ["value"] (spF g 1 m_is_name) ∧ mg "is_name" = some (.ref f) ∧ PySem.W.keepIn g.K (.ref f) = true ∧ Binds g.K fd ["value"] [] ∧ L2.Fun g.K "is_name" "is_name" s_is_name f fd := by
  refine fn_def (N := ["value"]) (ps := ["value"]) (k := 1) (b := b_is_name) D0 sc_is_name (fun _ _ _ _ _ _ us hl => match us, hl with | [_], _ => rfl) fun f A outer s H E hr tk => ?_
  exact ss_one (s_ret (e_and (c_fn c_is_word rfl tk hr (by decide) rfl (d_cons (ev 0) (d_nil))) (e_and (e_cmp o_le v_le (lk (e_callB o_len v_len rfl F.n_len (by decide +kernel) (a_cons (lk (ev 0)) (a_nil)))) (lk (e_glob rfl F.c_MOST_LETTERS)) (by rfl)) (e_one (e_cmp (o_notIn (units hr)) v_notIn (lk (ev 0)) (lk (e_glob rfl F.c_WORDS)) (by rfl))))))
theorem sc_is_tuple_of : FnScope ["value", "many"] ["value", "many"] (defScope s_is_tuple_of) := C8.fnScope_by (by decide +kernel)
theorem def_is_tuple_of {g : G} {P : Program} {w : World} {mg : Str → Option Value} {base : Heap} (F : Fc g mg) {c : Addr} (D0 : DefOk g.K mg "is_tuple_of" s_is_tuple_of c) : ∃ (f : Addr) (fd : FuncData), FnOk P w g.K mg base (L2.CX P w) 1 f fd ["value", "many"] (spF g 2 m_is_tuple_of) ∧ mg "is_tuple_of" = some (.ref f) ∧ PySem.W.keepIn g.K (.ref f) = true ∧ Binds g.K fd ["value", "many"] [] ∧ L2.Fun g.K "is_tuple_of" "is_tuple_of" s_is_tuple_of f fd := by
  refine fn_def (N := ["value", "many"]) (ps := ["value", "many"]) (k := 0) (b := b_is_tuple_of) D0 sc_is_tuple_of (fun _ _ _ _ _ _ us hl => match us, hl with | [_, _], _ => rfl) fun f A outer s H E hr tk => ?_
  exact ss_one (s_ret (e_and (e_isi (n := .tup) rfl rfl F.n_isinstance rfl F.n_tuple rfl (lk (ev 0))) (e_one (e_cmp (op_eqD (units64 hr)) v_eq (lk (e_callB o_len v_len rfl F.n_len (by decide +kernel) (a_cons (lk (ev 0)) (a_nil)))) (lk (ev 1)) (by rfl)))))
theorem sc_is_pair : FnScope ["value"] ["value"] (defScope s_is_pair) := C8.fnScope_by (by decide +kernel)
theorem def_is_pair {g : G} {P : Program} {w : World} {mg : Str → Option Value} {base : Heap} (F : Fc g mg) {c : Addr} (D0 : DefOk g.K mg "is_pair" s_is_pair c) (c_is_tuple_of : Fn g P w mg base 1 "is_tuple_of" 2 m_is_tuple_of) : ∃ (f : Addr) (fd : FuncData), FnOk P w g.K mg base (L2.CX P w) 2 f fd ["value"] (spF g 1 m_is_pair) ∧ mg "is_pair" = some (.ref f) ∧ PySem.W.keepIn g.K (.ref f) = true ∧ Binds g.K fd ["value"] [] ∧ L2.Fun g.K "is_pair" "is_pair" s_is_pair f fd := by
  refine fn_def (N := ["value"]) (ps := ["value"]) (k := 1) (b := b_is_pair) D0 sc_is_pair (fun _ _ _ _ _ _ us hl => match us, hl with | [_], _ => rfl) fun f A outer s H E hr tk => ?_
  exact ss_one (s_ret (c_fn c_is_tuple_of rfl tk hr (by decide) rfl (d_cons (ev 0) (d_cons (e_int) (d_nil)))))
theorem sc_are_below : FnScope ["ahead", "value"] ["ahead", "value"] (defScope s_are_below) := C8.fnScope_by (by decide +kernel)
theorem def_are_below {g : G} {P : Program} {w : World} {mg : Str → Option Value} {base : Heap} (F : Fc g mg) {c : Addr} (D0 : DefOk g.K mg "are_below" s_are_below c) : ∃ (f : Addr) (fd : FuncData), FnOk P w g.K mg base (L2.CX P w) 1 f fd ["ahead", "value"] (spF g 2 m_are_below) ∧ mg "are_below" = some (.ref f) ∧ PySem.W.keepIn g.K (.ref f) = true ∧ Binds g.K fd ["ahead", "value"] [] ∧ L2.Fun g.K "are_below" "are_below" s_are_below f fd := by
  refine fn_def (N := ["ahead", "value"]) (ps := ["ahead", "value"]) (k := 0) (b := b_are_below) D0 sc_are_below (fun _ _ _ _ _ _ us hl => match us, hl with | [_, _], _ => rfl) fun f A outer s H E hr tk => ?_
  exact ss_one (s_ret (e_or (e_cmp (op_eqD (units64 hr)) v_eq (lk (ev 0)) (lk (e_tup (d_nil))) (by rfl)) (e_one (e_cmp (o_lt (units0 hr)) v_lt (lk (e_ix ix_seq v_ix (lk (ev 0)) (lk (e_un un_neg v_neg (lk (e_int)))) (by intro _ _; rfl))) (lk (ev 1)) (by rfl)))))
theorem sc_is_figures : FnScope ["word", "sign"] ["word"] (defScope s_is_figures) := C8.fnScope_by (by decide +kernel)
theorem def_is_figures {g : G} {P : Program} {w : World} {mg : Str → Option Value} {base : Heap} (F : Fc g mg) {c : Addr} (D0 : DefOk g.K mg "is_figures" s_is_figures c) : ∃ (f : Addr) (fd : FuncData), FnOk P w g.K mg base (L2.CX P w) 1 f fd ["word"] (spF g 1 m_is_figures) ∧ mg "is_figures" = some (.ref f) ∧ PySem.W.keepIn g.K (.ref f) = true ∧ Binds g.K fd ["word"] [] ∧ L2.Fun g.K "is_figures" "is_figures" s_is_figures f fd := by
  refine fn_def (N := ["word", "sign"]) (ps := ["word"]) (k := 0) (b := b_is_figures) D0 sc_is_figures (fun _ _ _ _ _ _ us hl => match us, hl with | [_], _ => rfl) fun f A outer s H E hr tk => ?_
  exact ss_cons (s_if (PW.pt (w_or (t_cmp (op_eqD (units64 hr)) v_eq (lk (ev 0)) (lk (e_str)) (by rfl)) (w_or (t_not (t_val (e_callB (cr_all rfl) v_all rfl F.n_all (by decide +kernel) (a_cons (lk (eLc sc_is_figures.nd [("sign", 1)] rfl (i_any rfl (ev 0)) (fun _ _ _ _ _ => gN 1 sc_is_figures.nd) (fun _ _ _ _ _ => pts0) (fun _ _ _ _ _ => e_cmp (o_in (units hr)) v_in (lk (ev 1)) (lk (e_glob rfl F.c_FIGURES)) (by rfl)) (fun _ h => h))) (a_nil))))) (w_or1 (t_cmp o_gt v_gt (lk (e_callB o_len v_len rfl F.n_len (by decide +kernel) (a_cons (lk (ev 0)) (a_nil)))) (lk (e_glob rfl F.c_MOST_FIGURES)) (by rfl)))))) (ss_one (s_ret (e_bl))) (ss_nil)) (ss_one (s_ret (e_or (e_cmp (op_eqD (units64 hr)) v_eq (lk (ev 0)) (lk (e_str)) (by rfl)) (e_one (e_cmp (op_neD (units64 hr)) v_ne (lk (e_ix ix_seq v_ix (lk (ev 0)) (lk (e_int)) (by intro _ _; rfl))) (lk (e_str)) (by rfl))))))
theorem sc_told_row : FnScope ["value", "words"] ["value"] (defScope s_told_row) := C8.fnScope_by (by decide +kernel)
theorem def_told_row {g : G} {P : Program} {w : World} {mg : Str → Option Value} {base : Heap} (F : Fc g mg) {c : Addr} (D0 : DefOk g.K mg "told_row" s_told_row c) (c_is_word : Fn g P w mg base 1 "is_word" 1 m_is_word) (c_is_figures : Fn g P w mg base 1 "is_figures" 1 m_is_figures) : ∃ (f : Addr) (fd : FuncData), FnOk P w g.K mg base (L2.CX P w) 2 f fd ["value"] (spF g 1 m_told_row) ∧ mg "told_row" = some (.ref f) ∧ PySem.W.keepIn g.K (.ref f) = true ∧ Binds g.K fd ["value"] [] ∧ L2.Fun g.K "told_row" "told_row" s_told_row f fd := by
  refine fn_def (N := ["value", "words"]) (ps := ["value"]) (k := 1) (b := b_told_row) D0 sc_told_row (fun _ _ _ _ _ _ us hl => match us, hl with | [_], _ => rfl) fun f A outer s H E hr tk => ?_
  exact ss_cons (sN 1 sc_told_row.nd (e_if (t_val (e_isi (n := .str) rfl rfl F.n_isinstance rfl F.n_str rfl (lk (ev 0)))) (e_split (ev 0) (e_str)) (e_lst (d_cons (e_str) (d_nil))))) (ss_cons (s_if (PW.pt (w_or (t_cmp (op_neD (units64 hr)) v_ne (lk (e_callB o_len v_len rfl F.n_len (by decide +kernel) (a_cons (lk (ev 1)) (a_nil)))) (lk (e_int)) (by rfl)) (w_or (t_cmp (o_notIn (units hr)) v_notIn (lk (e_ix ix_seq v_ix (lk (ev 1)) (lk (e_int)) (by intro _ _; rfl))) (lk (e_tup (d_cons (e_glob rfl F.c_PERSON) (d_cons (e_glob rfl F.c_MET) (d_cons (e_glob rfl F.c_NOT) (d_nil)))))) (by rfl)) (w_or1 (t_not (t_val (c_fn c_is_word rfl tk hr (by decide) rfl (d_cons (e_ix ix_seq v_ix (lk (ev 1)) (lk (e_int)) (by intro _ _; rfl)) (d_nil))))))))) (ss_one (s_ret (e_tup (d_nil)))) (ss_nil)) (ss_cons (s_if (t_not (t_if (t_cmp (op_eqD (units64 hr)) v_eq (lk (e_ix ix_seq v_ix (lk (ev 1)) (lk (e_int)) (by intro _ _; rfl))) (lk (e_glob rfl F.c_PERSON)) (by rfl)) (t_val (c_fn c_is_figures rfl tk hr (by decide) rfl (d_cons (e_ix ix_seq v_ix (lk (ev 1)) (lk (e_int)) (by intro _ _; rfl)) (d_nil)))) (t_val (c_fn c_is_word rfl tk hr (by decide) rfl (d_cons (e_ix ix_seq v_ix (lk (ev 1)) (lk (e_int)) (by intro _ _; rfl)) (d_nil)))))) (ss_one (s_ret (e_tup (d_nil)))) (ss_nil)) (ss_one (s_ret (e_callTy o_tuple v_tuple rfl F.n_tuple (by decide +kernel) (a_cons (lk (ev 1)) (a_nil)))))))
theorem sc_place_of : FnScope ["words"] ["words"] (defScope s_place_of) := C8.fnScope_by (by decide +kernel)
theorem def_place_of {g : G} {P : Program} {w : World} {mg : Str → Option Value} {base : Heap} (F : Fc g mg) {c : Addr} (D0 : DefOk g.K mg "place_of" s_place_of c) : ∃ (f : Addr) (fd : FuncData), FnOk P w g.K mg base (L2.CX P w) 1 f fd ["words"] (spF g 1 m_place_of) ∧ mg "place_of" = some (.ref f) ∧ PySem.W.keepIn g.K (.ref f) = true ∧ Binds g.K fd ["words"] [] ∧ L2.Fun g.K "place_of" "place_of" s_place_of f fd := by
  refine fn_def (N := ["words"]) (ps := ["words"]) (k := 0) (b := b_place_of) D0 sc_place_of (fun _ _ _ _ _ _ us hl => match us, hl with | [_], _ => rfl) fun f A outer s H E hr tk => ?_
  exact ss_one (s_ret (e_tupIx rfl (d_cons (e_glob rfl F.c_PERSON) (d_cons (e_glob rfl F.c_MET) (d_cons (e_glob rfl F.c_NOT) (d_nil)))) (e_ix ix_seq v_ix (lk (ev 0)) (lk (e_int)) (by intro _ _; rfl))))
theorem sc_wrong_in_rows : FnScope ["value", "told", "last", "index", "words", "row"] ["value"] (defScope s_wrong_in_rows) := C8.fnScope_by (by decide +kernel)
theorem def_wrong_in_rows {g : G} {P : Program} {w : World} {mg : Str → Option Value} {base : Heap} (F : Fc g mg) {c : Addr} (D0 : DefOk g.K mg "wrong_in_rows" s_wrong_in_rows c) (c_told_row : Fn g P w mg base 2 "told_row" 1 m_told_row) (c_place_of : Fn g P w mg base 1 "place_of" 1 m_place_of) : ∃ (f : Addr) (fd : FuncData), FnOk P w g.K mg base (L2.CX P w) 3 f fd ["value"] (spF g 1 m_wrong_in_rows) ∧ mg "wrong_in_rows" = some (.ref f) ∧ PySem.W.keepIn g.K (.ref f) = true ∧ Binds g.K fd ["value"] [] ∧ L2.Fun g.K "wrong_in_rows" "wrong_in_rows" s_wrong_in_rows f fd := by
  refine fn_def (N := ["value", "told", "last", "index", "words", "row"]) (ps := ["value"]) (k := 2) (b := b_wrong_in_rows) D0 sc_wrong_in_rows (fun _ _ _ _ _ _ us hl => match us, hl with | [_], _ => rfl) fun f A outer s H E hr tk => ?_
  exact ss_cons (s_if (PW.pt (w_or (t_not (t_val (e_isi (n := .tup) rfl rfl F.n_isinstance rfl F.n_tuple rfl (lk (ev 0))))) (w_or1 (t_cmp (op_eqD (units64 hr)) v_eq (lk (ev 0)) (lk (e_tup (d_nil))) (by rfl))))) (ss_one (s_ret (e_lst (d_cons (e_non) (d_nil))))) (ss_nil)) (ss_cons (sP 1 2 sc_wrong_in_rows.nd (d_cons (eLc sc_wrong_in_rows.nd [("row", 5)] rfl (i_any rfl (ev 0)) (fun _ _ _ _ _ => gN 5 sc_wrong_in_rows.nd) (fun _ _ _ _ _ => pts0) (fun _ _ _ _ _ => c_fn c_told_row rfl MP.takes0 hr (by decide) rfl (d_cons (ev 5) (d_nil))) (fun _ h => h)) (d_cons (e_int) (d_nil)))) (ss_cons (s_for (passes_of rfl) rfl (i_enum rfl rfl F.n_enumerate (d_cons (ev 1) (d_nil))) (g_tup rfl rfl (gs_cons (gN 3 sc_wrong_in_rows.nd) (gs_cons (gN 4 sc_wrong_in_rows.nd) (gs_nil)))) (ss_cons (s_if (PW.pt (w_or (t_cmp (op_eqD (units64 hr)) v_eq (lk (ev 4)) (lk (e_tup (d_nil))) (by rfl)) (w_or1 (t_cmp (o_lt (units0 hr)) v_lt (lk (c_fn c_place_of rfl tk hr (by decide) rfl (d_cons (ev 4) (d_nil)))) (lk (ev 2)) (by rfl))))) (ss_one (s_ret (e_lst (d_cons (ev 3) (d_nil))))) (ss_nil)) (ss_one (sN 2 sc_wrong_in_rows.nd (c_fn c_place_of rfl tk hr (by decide) rfl (d_cons (ev 4) (d_nil))))))) (ss_one (s_ret (e_lst (d_nil))))))
theorem sc_rows_told : FnScope ["rows", "told", "people", "counts", "yes", "row", "words"] ["rows"] (defScope s_rows_told) := C8.fnScope_by (by decide +kernel)
theorem def_rows_told {g : G} {P : Program} {w : World} {mg : Str → Option Value} {base : Heap} (F : Fc g mg) {c : Addr} (D0 : DefOk g.K mg "rows_told" s_rows_told c) (c_told_row : Fn g P w mg base 2 "told_row" 1 m_told_row) : ∃ (f : Addr) (fd : FuncData), FnOk P w g.K mg base (L2.CX P w) 3 f fd ["rows"] (spF g 1 m_rows_told) ∧ mg "rows_told" = some (.ref f) ∧ PySem.W.keepIn g.K (.ref f) = true ∧ Binds g.K fd ["rows"] [] ∧ L2.Fun g.K "rows_told" "rows_told" s_rows_told f fd := by
  refine fn_def (N := ["rows", "told", "people", "counts", "yes", "row", "words"]) (ps := ["rows"]) (k := 2) (b := b_rows_told) D0 sc_rows_told (fun _ _ _ _ _ _ us hl => match us, hl with | [_], _ => rfl) fun f A outer s H E hr tk => ?_
  exact ss_cons (sLc 1 sc_rows_told.nd [("row", 5)] rfl (i_any rfl (ev 0)) (fun _ _ _ _ _ => gN 5 sc_rows_told.nd) (fun _ _ _ _ _ => pts0) (fun _ _ _ _ _ => c_fn c_told_row rfl MP.takes0 hr (by decide) rfl (d_cons (ev 5) (d_nil))) (fun _ h => h)) (ss_cons (sN 2 sc_rows_told.nd (e_callTy o_tuple v_tuple rfl F.n_tuple (by decide +kernel) (a_cons (lk (eLc sc_rows_told.nd [("words", 6)] rfl (i_any rfl (ev 1)) (fun _ _ _ _ _ => gN 6 sc_rows_told.nd) (fun _ _ _ _ _ => pts1 (t_cmp (op_eqD (units64 hr)) v_eq (lk (e_ix ix_seq v_ix (lk (ev 6)) (lk (e_int)) (by intro _ _; rfl))) (lk (e_glob rfl F.c_PERSON)) (by rfl))) (fun _ _ _ _ _ => e_ix ix_seq v_ix (lk (ev 6)) (lk (e_int)) (by intro _ _; rfl)) (fun _ h => h))) (a_nil)))) (ss_cons (sN 3 sc_rows_told.nd (e_callTy o_tuple v_tuple rfl F.n_tuple (by decide +kernel) (a_cons (lk (eLc sc_rows_told.nd [("words", 6)] rfl (i_any rfl (ev 1)) (fun _ _ _ _ _ => gN 6 sc_rows_told.nd) (fun _ _ _ _ _ => pts1 (t_cmp (op_eqD (units64 hr)) v_eq (lk (e_ix ix_seq v_ix (lk (ev 6)) (lk (e_int)) (by intro _ _; rfl))) (lk (e_glob rfl F.c_PERSON)) (by rfl))) (fun _ _ _ _ _ => e_callTy o_int v_int rfl F.n_int (by decide +kernel) (a_cons (lk (e_ix ix_seq v_ix (lk (ev 6)) (lk (e_int)) (by intro _ _; rfl))) (a_nil))) (fun _ h => h))) (a_nil)))) (ss_cons (sN 4 sc_rows_told.nd (e_callTy o_tuple v_tuple rfl F.n_tuple (by decide +kernel) (a_cons (lk (eLc sc_rows_told.nd [("words", 6)] rfl (i_any rfl (ev 1)) (fun _ _ _ _ _ => gN 6 sc_rows_told.nd) (fun _ _ _ _ _ => pts1 (t_cmp (op_eqD (units64 hr)) v_eq (lk (e_ix ix_seq v_ix (lk (ev 6)) (lk (e_int)) (by intro _ _; rfl))) (lk (e_glob rfl F.c_MET)) (by rfl))) (fun _ _ _ _ _ => e_sl rfl (lk (ev 6)) (p_some (e_int)) (p_no)) (fun _ h => h))) (a_nil)))) (ss_one (s_ret (e_tup (d_cons (ev 2) (d_cons (ev 3) (d_cons (ev 4) (d_cons (e_callTy o_tuple v_tuple rfl F.n_tuple (by decide +kernel) (a_cons (lk (eLc sc_rows_told.nd [("words", 6)] rfl (i_any rfl (ev 1)) (fun _ _ _ _ _ => gN 6 sc_rows_told.nd) (fun _ _ _ _ _ => pts1 (t_cmp (op_eqD (units64 hr)) v_eq (lk (e_ix ix_seq v_ix (lk (ev 6)) (lk (e_int)) (by intro _ _; rfl))) (lk (e_glob rfl F.c_NOT)) (by rfl))) (fun _ _ _ _ _ => e_sl rfl (lk (ev 6)) (p_some (e_int)) (p_no)) (fun _ h => h))) (a_nil))) (d_nil)))))))))))
theorem sc_rows_by : FnScope ["people", "counts", "yes", "no", "found", "person", "count", "one", "other"] ["people", "counts", "yes", "no"] (defScope s_rows_by) := C8.fnScope_by (by decide +kernel)
theorem def_rows_by {g : G} {P : Program} {w : World} {mg : Str → Option Value} {base : Heap} (F : Fc g mg) {c : Addr} (D0 : DefOk g.K mg "rows_by" s_rows_by c) : ∃ (f : Addr) (fd : FuncData), FnOk P w g.K mg base (L2.CX P w) 1 f fd ["people", "counts", "yes", "no"] (spF g 4 m_rows_by) ∧ mg "rows_by" = some (.ref f) ∧ PySem.W.keepIn g.K (.ref f) = true ∧ Binds g.K fd ["people", "counts", "yes", "no"] [] ∧ L2.Fun g.K "rows_by" "rows_by" s_rows_by f fd := by
  refine fn_def (N := ["people", "counts", "yes", "no", "found", "person", "count", "one", "other"]) (ps := ["people", "counts", "yes", "no"]) (k := 0) (b := b_rows_by) D0 sc_rows_by (fun _ _ _ _ _ _ us hl => match us, hl with | [_, _, _, _], _ => rfl) fun f A outer s H E hr tk => ?_
  exact ss_cons (sLc 4 sc_rows_by.nd [("person", 5), ("count", 6)] rfl (i_zip rfl rfl F.n_zip (d_cons (ev 0) (d_cons (ev 1) (d_nil)))) (fun _ _ _ _ _ => g_tup rfl rfl (gs_cons (gN 5 sc_rows_by.nd) (gs_cons (gN 6 sc_rows_by.nd) (gs_nil)))) (fun _ _ _ _ _ => pts0) (fun _ _ _ _ _ => e_joined (.cons (e_fmt (e_glob rfl F.c_PERSON)) (.cons (e_str) (.cons (e_fmt (ev 5)) (.cons (e_str) (.cons (e_fmt (ev 6)) (.nil))))))) (fun _ h => h)) (ss_cons (sN 4 sc_rows_by.nd (e_bin o_add v_add (lk (ev 4)) (lk (eLc sc_rows_by.nd [("one", 7), ("other", 8)] rfl (i_any rfl (ev 2)) (fun _ _ _ _ _ => g_tup rfl rfl (gs_cons (gN 7 sc_rows_by.nd) (gs_cons (gN 8 sc_rows_by.nd) (gs_nil)))) (fun _ _ _ _ _ => pts0) (fun _ _ _ _ _ => e_joined (.cons (e_fmt (e_glob rfl F.c_MET)) (.cons (e_str) (.cons (e_fmt (ev 7)) (.cons (e_str) (.cons (e_fmt (ev 8)) (.nil))))))) (fun _ h => h))))) (ss_one (s_ret (e_callTy o_tuple v_tuple rfl F.n_tuple (by decide +kernel) (a_cons (lk (e_bin o_add v_add (lk (ev 4)) (lk (eLc sc_rows_by.nd [("one", 7), ("other", 8)] rfl (i_any rfl (ev 3)) (fun _ _ _ _ _ => g_tup rfl rfl (gs_cons (gN 7 sc_rows_by.nd) (gs_cons (gN 8 sc_rows_by.nd) (gs_nil)))) (fun _ _ _ _ _ => pts0) (fun _ _ _ _ _ => e_joined (.cons (e_fmt (e_glob rfl F.c_NOT)) (.cons (e_str) (.cons (e_fmt (ev 7)) (.cons (e_str) (.cons (e_fmt (ev 8)) (.nil))))))) (fun _ h => h))))) (a_nil))))))
theorem sc_is_meeting : FnScope ["people", "value"] ["people", "value"] (defScope s_is_meeting) := C8.fnScope_by (by decide +kernel)
theorem def_is_meeting {g : G} {P : Program} {w : World} {mg : Str → Option Value} {base : Heap} (F : Fc g mg) {c : Addr} (D0 : DefOk g.K mg "is_meeting" s_is_meeting c) (c_is_pair : Fn g P w mg base 2 "is_pair" 1 m_is_pair) (c_is_one_of : Fn g P w mg base 1 "is_one_of" 2 m_is_one_of) : ∃ (f : Addr) (fd : FuncData), FnOk P w g.K mg base (L2.CX P w) 3 f fd ["people", "value"] (spF g 2 m_is_meeting) ∧ mg "is_meeting" = some (.ref f) ∧ PySem.W.keepIn g.K (.ref f) = true ∧ Binds g.K fd ["people", "value"] [] ∧ L2.Fun g.K "is_meeting" "is_meeting" s_is_meeting f fd := by
  refine fn_def (N := ["people", "value"]) (ps := ["people", "value"]) (k := 2) (b := b_is_meeting) D0 sc_is_meeting (fun _ _ _ _ _ _ us hl => match us, hl with | [_, _], _ => rfl) fun f A outer s H E hr tk => ?_
  exact ss_cons (s_if (PW.pt (w_or (t_not (t_val (c_fn c_is_pair rfl tk hr (by decide) rfl (d_cons (ev 1) (d_nil))))) (w_or (t_not (t_val (c_fn c_is_one_of rfl tk hr (by decide) rfl (d_cons (e_ix ix_seq v_ix (lk (ev 1)) (lk (e_int)) (by intro _ _; rfl)) (d_cons (ev 0) (d_nil)))))) (w_or1 (t_not (t_val (c_fn c_is_one_of rfl tk hr (by decide) rfl (d_cons (e_ix ix_seq v_ix (lk (ev 1)) (lk (e_int)) (by intro _ _; rfl)) (d_cons (ev 0) (d_nil)))))))))) (ss_one (s_ret (e_bl))) (ss_nil)) (ss_one (s_ret (e_cmp (o_lt (units0 hr)) v_lt (lk (e_ix ix_seq v_ix (lk (ev 1)) (lk (e_int)) (by intro _ _; rfl))) (lk (e_ix ix_seq v_ix (lk (ev 1)) (lk (e_int)) (by intro _ _; rfl))) (by rfl))))
theorem sc__law_well : FnScope ["script", "lap", "stirred", "cell", "own"] ["script", "lap"] (defScope s__law_well) := C8.fnScope_by (by decide +kernel)
theorem def__law_well {g : G} {P : Program} {w : World} {mg : Str → Option Value} {base : Heap} (F : Fc g mg) {c : Addr} (D0 : DefOk g.K mg "_law_well" s__law_well c) : ∃ (f : Addr) (fd : FuncData), FnOk P w g.K mg base (L2.CX P w) 1 f fd ["script", "lap"] (spF g 2 m__law_well) ∧ mg "_law_well" = some (.ref f) ∧ PySem.W.keepIn g.K (.ref f) = true ∧ Binds g.K fd ["script", "lap"] [] ∧ L2.Fun g.K "_law_well" "_law_well" s__law_well f fd := by
  refine fn_def (N := ["script", "lap", "stirred", "cell", "own"]) (ps := ["script", "lap"]) (k := 0) (b := b__law_well) D0 sc__law_well (fun _ _ _ _ _ _ us hl => match us, hl with | [_, _], _ => rfl) fun f A outer s H E hr tk => ?_
  exact ss_cons (sN 2 sc__law_well.nd (e_bin o_add v_add (lk (e_int)) (lk (e_bin o_mul v_mul (lk (e_int)) (lk (ev 1)))))) (ss_cons (s_for (passes_of rfl) rfl (i_any rfl (e_sl rfl (lk (ev 0)) (p_no) (p_some (e_int)))) (gN 3 sc__law_well.nd) (ss_one (sN 2 sc__law_well.nd (e_bin op_mod v_mod (lk (e_callTy o_int v_int rfl F.n_int (by decide +kernel) (a_cons (lk (e_bin o_add v_add (lk (e_bin o_add v_add (lk (e_bin o_mul v_mul (lk (ev 2)) (lk (e_int)))) (lk (e_bin op_mod v_mod (lk (e_callTy o_int v_int rfl F.n_int (by decide +kernel) (a_cons (lk (ev 3)) (a_nil)))) (lk (e_int)))))) (lk (e_int)))) (a_nil)))) (lk (e_int)))))) (ss_cons (sN 4 sc__law_well.nd (e_if (t_cmp (o_lt (units0 hr)) v_lt (lk (ev 1)) (lk (e_callB o_len v_len rfl F.n_len (by decide +kernel) (a_cons (lk (ev 0)) (a_nil)))) (by rfl)) (e_callTy o_int v_int rfl F.n_int (by decide +kernel) (a_cons (lk (e_ix ix_seq v_ix (lk (ev 0)) (lk (ev 1)) (by intro _ _; rfl))) (a_nil))) (e_int))) (ss_cons (sN 2 sc__law_well.nd (e_bin op_mod v_mod (lk (e_callTy o_int v_int rfl F.n_int (by decide +kernel) (a_cons (lk (e_bin o_add v_add (lk (e_bin o_add v_add (lk (e_bin o_mul v_mul (lk (ev 2)) (lk (e_int)))) (lk (e_bin o_mul v_mul (lk (e_bin op_mod v_mod (lk (e_callTy o_int v_int rfl F.n_int (by decide +kernel) (a_cons (lk (ev 4)) (a_nil)))) (lk (e_int)))) (lk (e_int)))))) (lk (e_int)))) (a_nil)))) (lk (e_int)))) (ss_one (s_ret (e_loc (d_cons (e_if (PW.pt (w_or (t_cmp (o_lt (units0 hr)) v_lt (lk (ev 4)) (lk (e_int)) (by rfl)) (w_or1 (t_cmp o_ge v_ge (lk (ev 4)) (lk (e_bin op_pow v_pow (lk (e_int)) (lk (e_int)))) (by rfl))))) (e_callB call_abs v_abs rfl F.n_abs (by decide +kernel) (a_cons (lk (ev 4)) (a_nil))) (e_int)) (d_cons (ev 2) (d_cons (e_int) (d_nil))))))))))
theorem sc__law_draw : FnScope ["well", "limit", "figure", "mixed"] ["well", "limit"] (defScope s__law_draw) := C8.fnScope_by (by decide +kernel)
theorem def__law_draw {g : G} {P : Program} {w : World} {mg : Str → Option Value} {base : Heap} (F : Fc g mg) {c : Addr} (D0 : DefOk g.K mg "_law_draw" s__law_draw c) : ∃ (f : Addr) (fd : FuncData), FnOk P w g.K mg base (L2.CX P w) 1 f fd ["well", "limit"] (spF g 2 m__law_draw) ∧ mg "_law_draw" = some (.ref f) ∧ PySem.W.keepIn g.K (.ref f) = true ∧ Binds g.K fd ["well", "limit"] [] ∧ L2.Fun g.K "_law_draw" "_law_draw" s__law_draw f fd := by
  refine fn_def (N := ["well", "limit", "figure", "mixed"]) (ps := ["well", "limit"]) (k := 0) (b := b__law_draw) D0 sc__law_draw (fun _ _ _ _ _ _ us hl => match us, hl with | [_, _], _ => rfl) fun f A outer s H E hr tk => ?_
  exact ss_cons (s_if (t_cmp o_gt v_gt (lk (e_ix ix_seq v_ix (lk (ev 0)) (lk (e_int)) (by intro _ _; rfl))) (lk (e_int)) (by rfl)) (ss_cons (s_asg (e_callB o_divmod v_divmod rfl F.n_divmod (by decide +kernel) (a_cons (lk (e_ix ix_seq v_ix (lk (ev 0)) (lk (e_int)) (by intro _ _; rfl))) (a_cons (lk (ev 1)) (a_nil)))) (u_tup rfl rfl (us_cons (u_sub (W := W0) (ev 0) (e_int)) (us_cons (uN 2 sc__law_draw.nd) (us_nil))))) (ss_one (s_ret (ev 2)))) (ss_nil)) (ss_cons (s_asg (e_bin o_add v_add (lk (e_ix ix_seq v_ix (lk (ev 0)) (lk (e_int)) (by intro _ _; rfl))) (lk (e_int))) (u_sub (W := W0) (ev 0) (e_int))) (ss_cons (sN 3 sc__law_draw.nd (e_bin op_mod v_mod (lk (e_callTy o_int v_int rfl F.n_int (by decide +kernel) (a_cons (lk (e_bin o_add v_add (lk (e_bin o_add v_add (lk (e_bin o_mul v_mul (lk (e_ix ix_seq v_ix (lk (ev 0)) (lk (e_int)) (by intro _ _; rfl))) (lk (e_int)))) (lk (e_bin o_mul v_mul (lk (e_int)) (lk (e_ix ix_seq v_ix (lk (ev 0)) (lk (e_int)) (by intro _ _; rfl))))))) (lk (e_int)))) (a_nil)))) (lk (e_int)))) (ss_cons (s_asg (e_bin op_mod v_mod (lk (e_callTy o_int v_int rfl F.n_int (by decide +kernel) (a_cons (lk (e_bin o_add v_add (lk (e_bin o_mul v_mul (lk (ev 3)) (lk (e_bin o_add v_add (lk (e_bin op_mod v_mod (lk (e_callTy o_int v_int rfl F.n_int (by decide +kernel) (a_cons (lk (ev 3)) (a_nil)))) (lk (e_int)))) (lk (e_int)))))) (lk (e_ix ix_seq v_ix (lk (ev 0)) (lk (e_int)) (by intro _ _; rfl))))) (a_nil)))) (lk (e_int))) (u_sub (W := W0) (ev 0) (e_int))) (ss_one (s_ret (e_bin op_mod v_mod (lk (e_callTy o_int v_int rfl F.n_int (by decide +kernel) (a_cons (lk (e_bin op_fdiv v_div (lk (e_ix ix_seq v_ix (lk (ev 0)) (lk (e_int)) (by intro _ _; rfl))) (lk (e_int)))) (a_nil)))) (lk (ev 1))))))))
theorem sc__law_of : FnScope ["well", "some"] ["well", "some"] (defScope s__law_of) := C8.fnScope_by (by decide +kernel)
theorem def__law_of {g : G} {P : Program} {w : World} {mg : Str → Option Value} {base : Heap} (F : Fc g mg) {c : Addr} (D0 : DefOk g.K mg "_law_of" s__law_of c) (c__law_draw : Fn g P w mg base 1 "_law_draw" 2 m__law_draw) : ∃ (f : Addr) (fd : FuncData), FnOk P w g.K mg base (L2.CX P w) 2 f fd ["well", "some"] (spF g 2 m__law_of) ∧ mg "_law_of" = some (.ref f) ∧ PySem.W.keepIn g.K (.ref f) = true ∧ Binds g.K fd ["well", "some"] [] ∧ L2.Fun g.K "_law_of" "_law_of" s__law_of f fd := by
  refine fn_def (N := ["well", "some"]) (ps := ["well", "some"]) (k := 1) (b := b__law_of) D0 sc__law_of (fun _ _ _ _ _ _ us hl => match us, hl with | [_, _], _ => rfl) fun f A outer s H E hr tk => ?_
  exact ss_one (s_ret (e_ix ix_seq v_ix (lk (ev 1)) (lk (c_fn c__law_draw rfl tk hr (by decide) rfl (d_cons (ev 0) (d_cons (e_callB o_len v_len rfl F.n_len (by decide +kernel) (a_cons (lk (ev 1)) (a_nil))) (d_nil))))) (by intro _ _; rfl)))
theorem sc__law_same : FnScope ["one", "two", "alike", "k"] ["one", "two"] (defScope s__law_same) := C8.fnScope_by (by decide +kernel)
theorem def__law_same {g : G} {P : Program} {w : World} {mg : Str → Option Value} {base : Heap} (F : Fc g mg) {c : Addr} (D0 : DefOk g.K mg "_law_same" s__law_same c) : ∀ n : Nat, ∃ (f : Addr) (fd : FuncData), FnOk P w g.K mg base (L2.CX P w) (n + 1) f fd ["one", "two"] (spF g 2 (m__law_same_ n)) ∧ mg "_law_same" = some (.ref f) ∧ PySem.W.keepIn g.K (.ref f) = true ∧ Binds g.K fd ["one", "two"] [] ∧ L2.Fun g.K "_law_same" "_law_same" s__law_same f fd
  | 0 => fn_def (N := ["one", "two", "alike", "k"]) (ps := ["one", "two"]) (k := 0) (b := mEr) D0 sc__law_same (fun _ _ _ _ _ _ us hl => match us, hl with | [_, _], _ => rfl) fun f A outer s H E hr tk => ss_er
  | n + 1 => by
    have c__law_same : Fn g P w mg base (n + 1) "_law_same" 2 (m__law_same_ n) := fn_of_def (def__law_same F D0 n)
    refine fn_def (N := ["one", "two", "alike", "k"]) (ps := ["one", "two"]) (k := n + 1) (b := b__law_same (m__law_same_ n)) D0 sc__law_same (fun _ _ _ _ _ _ us hl => match us, hl with | [_, _], _ => rfl) fun f A outer s H E hr tk => ?_
    exact ss_cons (s_if (t_val (e_isi (n := .tup) rfl rfl F.n_isinstance rfl F.n_tuple rfl (lk (ev 1)))) (ss_cons (s_if (PW.pt (w_or (t_not (t_val (e_isi (n := .tup) rfl rfl F.n_isinstance rfl F.n_tuple rfl (lk (ev 0))))) (w_or1 (t_cmp (op_neD (units64 hr)) v_ne (lk (e_callB o_len v_len rfl F.n_len (by decide +kernel) (a_cons (lk (ev 0)) (a_nil)))) (lk (e_callB o_len v_len rfl F.n_len (by decide +kernel) (a_cons (lk (ev 1)) (a_nil)))) (by rfl))))) (ss_one (s_ret (e_bl))) (ss_nil)) (ss_one (s_ret (e_callB (cr_all rfl) v_all rfl F.n_all (by decide +kernel) (a_cons (lk (eLc sc__law_same.nd [("k", 3)] rfl (i_range1 rfl F.n_range (d_cons (e_callB o_len v_len rfl F.n_len (by decide +kernel) (a_cons (lk (ev 1)) (a_nil))) (d_nil))) (fun _ _ _ _ _ => gN 3 sc__law_same.nd) (fun _ _ _ _ _ => pts0) (fun _ _ _ _ _ => c_fn c__law_same rfl MP.takes0 hr (by omega) rfl (d_cons (e_ix ix_seq v_ix (lk (ev 0)) (lk (ev 3)) (by intro _ _; rfl)) (d_cons (e_ix ix_seq v_ix (lk (ev 1)) (lk (ev 3)) (by intro _ _; rfl)) (d_nil)))) (fun _ h => h))) (a_nil)))))) (ss_nil)) (ss_cons (s_if (t_val (e_isi (n := .bl) rfl rfl F.n_isinstance rfl F.n_bool rfl (lk (ev 1)))) (ss_one (s_ret (e_and (e_isi (n := .bl) rfl rfl F.n_isinstance rfl F.n_bool rfl (lk (ev 0))) (e_one (e_cmp (op_eqD (units64 hr)) v_eq (lk (ev 0)) (lk (ev 1)) (by rfl)))))) (ss_nil)) (ss_cons (s_if (t_val (e_isi (n := .int) rfl rfl F.n_isinstance rfl F.n_int rfl (lk (ev 1)))) (ss_one (s_ret (e_and (e_isi (n := .int) rfl rfl F.n_isinstance rfl F.n_int rfl (lk (ev 0))) (e_and (e_not (e_isi (n := .bl) rfl rfl F.n_isinstance rfl F.n_bool rfl (lk (ev 0)))) (e_one (e_cmp (op_eqD (units64 hr)) v_eq (lk (ev 0)) (lk (ev 1)) (by rfl))))))) (ss_nil)) (ss_cons (s_if (t_val (e_isi (n := .str) rfl rfl F.n_isinstance rfl F.n_str rfl (lk (ev 1)))) (ss_one (s_ret (e_and (e_isi (n := .str) rfl rfl F.n_isinstance rfl F.n_str rfl (lk (ev 0))) (e_one (e_cmp (op_eqD (units64 hr)) v_eq (lk (ev 0)) (lk (ev 1)) (by rfl)))))) (ss_nil)) (ss_cons (s_if (t_cmp o_is v_is (lk (ev 1)) (lk (e_non)) (by rfl)) (ss_one (s_ret (e_cmp o_is v_is (lk (ev 0)) (lk (e_non)) (by rfl)))) (ss_nil)) (ss_cons (sN 2 sc__law_same.nd (e_and (e_cmp (op_eqD (units64 hr)) v_eq (lk (e_isi (n := .lst) rfl rfl F.n_isinstance rfl F.n_list rfl (lk (ev 0)))) (lk (e_isi (n := .lst) rfl rfl F.n_isinstance rfl F.n_list rfl (lk (ev 1)))) (by rfl)) (e_one (e_cmp (op_eqD (units64 hr)) v_eq (lk (e_isi (n := .dct) rfl rfl F.n_isinstance rfl F.n_dict rfl (lk (ev 0)))) (lk (e_isi (n := .dct) rfl rfl F.n_isinstance rfl F.n_dict rfl (lk (ev 1)))) (by rfl))))) (ss_one (s_ret (e_and (ev 2) (e_and (e_not (e_isi (n := .tup) rfl rfl F.n_isinstance rfl F.n_tuple rfl (lk (ev 0)))) (e_one (e_cmp o_is v_is (lk (e_cmp (op_eqD (units64 hr)) v_eq (lk (ev 0)) (lk (ev 1)) (by rfl))) (lk (e_bl)) (by rfl))))))))))))
theorem ok__law_same {g : G} {P : Program} {w : World} {mg : Str → Option Value} {base : Heap} (F : Fc g mg) {c : Addr} (D0 : DefOk g.K mg "_law_same" s__law_same c) : Fn g P w mg base 9 "_law_same" 2 m__law_same := fn_of_def (def__law_same F D0 8)
theorem sc__law_words : FnScope ["words"] [] (defScope s__law_words) := C8.fnScope_by (by decide +kernel)
theorem def__law_words {g : G} {P : Program} {w : World} {mg : Str → Option Value} {base : Heap} (F : Fc g mg) {c : Addr} (D0 : DefOk g.K mg "_law_words" s__law_words c) : ∃ (f : Addr) (fd : FuncData), FnOk P w g.K mg base (L2.CX P w) 1 f fd [] (spF g 0 m__law_words) ∧ mg "_law_words" = some (.ref f) ∧ PySem.W.keepIn g.K (.ref f) = true ∧ Binds g.K fd [] [] ∧ L2.Fun g.K "_law_words" "_law_words" s__law_words f fd := by
  refine fn_def (N := ["words"]) (ps := []) (k := 0) (b := b__law_words) D0 sc__law_words (fun _ _ _ _ _ _ us hl => match us, hl with | [], _ => rfl) fun f A outer s H E hr tk => ?_
  exact ss_cons (sN 0 sc__law_words.nd (e_str)) (ss_one (s_ret (e_split (e_bin o_add v_add (lk (ev 0)) (lk (e_str))) (e_str))))
theorem sc__law_names : FnScope ["well", "many", "letters", "found", "turn", "name", "size", "lap", "at"] ["well", "many"] (defScope s__law_names) := C8.fnScope_by (by decide +kernel)
theorem def__law_names {g : G} {P : Program} {w : World} {mg : Str → Option Value} {base : Heap} (F : Fc g mg) {c : Addr} (D0 : DefOk g.K mg "_law_names" s__law_names c) (c__law_of : Fn g P w mg base 2 "_law_of" 2 m__law_of) (c__law_draw : Fn g P w mg base 1 "_law_draw" 2 m__law_draw) (c__law_words : Fn g P w mg base 1 "_law_words" 0 m__law_words) : ∃ (f : Addr) (fd : FuncData), FnOk P w g.K mg base (L2.CX P w) 3 f fd ["well", "many"] (spF g 2 m__law_names) ∧ mg "_law_names" = some (.ref f) ∧ PySem.W.keepIn g.K (.ref f) = true ∧ Binds g.K fd ["well", "many"] [] ∧ L2.Fun g.K "_law_names" "_law_names" s__law_names f fd := by
  refine fn_def (N := ["well", "many", "letters", "found", "turn", "name", "size", "lap", "at"]) (ps := ["well", "many"]) (k := 2) (b := b__law_names) D0 sc__law_names (fun _ _ _ _ _ _ us hl => match us, hl with | [_, _], _ => rfl) fun f A outer s H E hr tk => ?_
  exact ss_cons (sP 2 3 sc__law_names.nd (d_cons (e_str) (d_cons (e_loc (d_nil)) (d_nil)))) (ss_cons (s_for (passes_of rfl) rfl (i_range1 rfl F.n_range (d_cons (ev 1) (d_nil))) (gN 4 sc__law_names.nd) (ss_cons (sP 5 6 sc__law_names.nd (d_cons (e_str) (d_cons (c_fn c__law_of rfl tk hr (by decide) rfl (d_cons (ev 0) (d_cons (e_tup (d_cons (e_int) (d_cons (e_int) (d_cons (e_int) (d_cons (e_int) (d_cons (e_int) (d_cons (e_int) (d_nil)))))))) (d_nil)))) (d_nil)))) (ss_cons (s_for (passes_of rfl) rfl (i_range1 rfl F.n_range (d_cons (ev 6) (d_nil))) (gN 7 sc__law_names.nd) (ss_one (sN 5 sc__law_names.nd (e_bin o_add v_add (lk (ev 5)) (lk (c_fn c__law_of rfl tk hr (by decide) rfl (d_cons (ev 0) (d_cons (ev 2) (d_nil))))))))) (ss_cons (sN 8 sc__law_names.nd (c_fn c__law_draw rfl tk hr (by decide) rfl (d_cons (ev 0) (d_cons (e_bin o_add v_add (lk (ev 6)) (lk (e_int))) (d_nil))))) (ss_cons (sN 5 sc__law_names.nd (e_bin o_add v_add (lk (e_bin o_add v_add (lk (e_sl rfl (lk (ev 5)) (p_no) (p_some (ev 8)))) (lk (e_ix ix_seq v_ix (lk (ev 2)) (lk (ev 4)) (by intro _ _; rfl))))) (lk (e_sl rfl (lk (ev 5)) (p_some (ev 8)) (p_no))))) (ss_one (s_expr (e_append rfl (ev 3) (e_if (PW.pt (w_or (t_cmp (o_in (units hr)) v_in (lk (ev 5)) (lk (ev 3)) (by rfl)) (w_or1 (t_cmp (o_in (units hr)) v_in (lk (ev 5)) (lk (c_fn0 c__law_words rfl hr (by decide) rfl)) (by rfl))))) (e_bin o_mul v_mul (lk (e_ix ix_seq v_ix (lk (ev 2)) (lk (ev 4)) (by intro _ _; rfl))) (lk (e_int))) (ev 5)))))))))) (ss_one (s_ret (e_callTy o_tuple v_tuple rfl F.n_tuple (by decide +kernel) (a_cons (lk (e_callB cr_sortedS v_sorted rfl F.n_sorted (by decide +kernel) (a_cons (lk (ev 3)) (a_nil)))) (a_nil))))))
theorem sc__law_pairs : FnScope ["people", "found", "k", "other"] ["people"] (defScope s__law_pairs) := C8.fnScope_by (by decide +kernel)
theorem def__law_pairs {g : G} {P : Program} {w : World} {mg : Str → Option Value} {base : Heap} (F : Fc g mg) {c : Addr} (D0 : DefOk g.K mg "_law_pairs" s__law_pairs c) : ∃ (f : Addr) (fd : FuncData), FnOk P w g.K mg base (L2.CX P w) 1 f fd ["people"] (spF g 1 m__law_pairs) ∧ mg "_law_pairs" = some (.ref f) ∧ PySem.W.keepIn g.K (.ref f) = true ∧ Binds g.K fd ["people"] [] ∧ L2.Fun g.K "_law_pairs" "_law_pairs" s__law_pairs f fd := by
  refine fn_def (N := ["people", "found", "k", "other"]) (ps := ["people"]) (k := 0) (b := b__law_pairs) D0 sc__law_pairs (fun _ _ _ _ _ _ us hl => match us, hl with | [_], _ => rfl) fun f A outer s H E hr tk => ?_
  exact ss_cons (sN 1 sc__law_pairs.nd (e_lst (d_nil))) (ss_cons (s_for (passes_of rfl) rfl (i_range1 rfl F.n_range (d_cons (e_callB o_len v_len rfl F.n_len (by decide +kernel) (a_cons (lk (ev 0)) (a_nil))) (d_nil))) (gN 2 sc__law_pairs.nd) (ss_one (sN 1 sc__law_pairs.nd (e_bin o_add v_add (lk (ev 1)) (lk (eLc sc__law_pairs.nd [("other", 3)] rfl (i_any rfl (e_sl rfl (lk (ev 0)) (p_some (e_bin o_add v_add (lk (ev 2)) (lk (e_int)))) (p_no))) (fun _ _ _ _ _ => gN 3 sc__law_pairs.nd) (fun _ _ _ _ _ => pts0) (fun _ _ _ _ _ => e_tup (d_cons (e_ix ix_seq v_ix (lk (ev 0)) (lk (ev 2)) (by intro _ _; rfl)) (d_cons (ev 3) (d_nil)))) (fun _ h => h))))))) (ss_one (s_ret (ev 1))))
theorem sc__law_two_rows : FnScope ["well", "people", "yes", "no", "pair", "way"] ["well", "people"] (defScope s__law_two_rows) := C8.fnScope_by (by decide +kernel)
theorem def__law_two_rows {g : G} {P : Program} {w : World} {mg : Str → Option Value} {base : Heap} (F : Fc g mg) {c : Addr} (D0 : DefOk g.K mg "_law_two_rows" s__law_two_rows c) (c__law_pairs : Fn g P w mg base 1 "_law_pairs" 1 m__law_pairs) (c__law_draw : Fn g P w mg base 1 "_law_draw" 2 m__law_draw) : ∃ (f : Addr) (fd : FuncData), FnOk P w g.K mg base (L2.CX P w) 2 f fd ["well", "people"] (spF g 2 m__law_two_rows) ∧ mg "_law_two_rows" = some (.ref f) ∧ PySem.W.keepIn g.K (.ref f) = true ∧ Binds g.K fd ["well", "people"] [] ∧ L2.Fun g.K "_law_two_rows" "_law_two_rows" s__law_two_rows f fd := by
  refine fn_def (N := ["well", "people", "yes", "no", "pair", "way"]) (ps := ["well", "people"]) (k := 1) (b := b__law_two_rows) D0 sc__law_two_rows (fun _ _ _ _ _ _ us hl => match us, hl with | [_, _], _ => rfl) fun f A outer s H E hr tk => ?_
  exact ss_cons (sP 2 3 sc__law_two_rows.nd (d_cons (e_lst (d_nil)) (d_cons (e_lst (d_nil)) (d_nil)))) (ss_cons (s_for (passes_of rfl) rfl (i_any rfl (c_fn c__law_pairs rfl tk hr (by decide) rfl (d_cons (ev 1) (d_nil)))) (gN 4 sc__law_two_rows.nd) (ss_cons (sN 5 sc__law_two_rows.nd (c_fn c__law_draw rfl tk hr (by decide) rfl (d_cons (ev 0) (d_cons (e_int) (d_nil))))) (ss_one (sP 2 3 sc__law_two_rows.nd (d_cons (e_bin o_add v_add (lk (ev 2)) (lk (e_if (t_cmp (op_eqD (units64 hr)) v_eq (lk (ev 5)) (lk (e_int)) (by rfl)) (e_lst (d_cons (ev 4) (d_nil))) (e_lst (d_nil))))) (d_cons (e_bin o_add v_add (lk (ev 3)) (lk (e_if (t_cmp (op_eqD (units64 hr)) v_eq (lk (ev 5)) (lk (e_int)) (by rfl)) (e_lst (d_cons (ev 4) (d_nil))) (e_lst (d_nil))))) (d_nil))))))) (ss_one (s_ret (e_tup (d_cons (e_callTy o_tuple v_tuple rfl F.n_tuple (by decide +kernel) (a_cons (lk (ev 2)) (a_nil))) (d_cons (e_callTy o_tuple v_tuple rfl F.n_tuple (by decide +kernel) (a_cons (lk (ev 3)) (a_nil))) (d_nil)))))))
theorem sc__law_rows : FnScope ["people", "counts", "yes", "no", "found", "k", "one", "two"] ["people", "counts", "yes", "no"] (defScope s__law_rows) := C8.fnScope_by (by decide +kernel)
theorem def__law_rows {g : G} {P : Program} {w : World} {mg : Str → Option Value} {base : Heap} (F : Fc g mg) {c : Addr} (D0 : DefOk g.K mg "_law_rows" s__law_rows c) : ∃ (f : Addr) (fd : FuncData), FnOk P w g.K mg base (L2.CX P w) 1 f fd ["people", "counts", "yes", "no"] (spF g 4 m__law_rows) ∧ mg "_law_rows" = some (.ref f) ∧ PySem.W.keepIn g.K (.ref f) = true ∧ Binds g.K fd ["people", "counts", "yes", "no"] [] ∧ L2.Fun g.K "_law_rows" "_law_rows" s__law_rows f fd := by
  refine fn_def (N := ["people", "counts", "yes", "no", "found", "k", "one", "two"]) (ps := ["people", "counts", "yes", "no"]) (k := 0) (b := b__law_rows) D0 sc__law_rows (fun _ _ _ _ _ _ us hl => match us, hl with | [_, _, _, _], _ => rfl) fun f A outer s H E hr tk => ?_
  exact ss_cons (sLc 4 sc__law_rows.nd [("k", 5)] rfl (i_range1 rfl F.n_range (d_cons (e_callB o_len v_len rfl F.n_len (by decide +kernel) (a_cons (lk (ev 0)) (a_nil))) (d_nil))) (fun _ _ _ _ _ => gN 5 sc__law_rows.nd) (fun _ _ _ _ _ => pts0) (fun _ _ _ _ _ => e_bin o_add v_add (lk (e_bin o_add v_add (lk (e_bin o_add v_add (lk (e_str)) (lk (e_ix ix_seq v_ix (lk (ev 0)) (lk (ev 5)) (by intro _ _; rfl))))) (lk (e_str)))) (lk (e_callTy call_str_int v_str rfl F.n_str (by decide +kernel) (a_cons (lk (e_ix ix_seq v_ix (lk (ev 1)) (lk (ev 5)) (by intro _ _; rfl))) (a_nil))))) (fun _ h => h)) (ss_one (s_ret (e_callTy o_tuple v_tuple rfl F.n_tuple (by decide +kernel) (a_cons (lk (e_bin o_add v_add (lk (e_bin o_add v_add (lk (ev 4)) (lk (eLc sc__law_rows.nd [("one", 6), ("two", 7)] rfl (i_any rfl (ev 2)) (fun _ _ _ _ _ => g_tup rfl rfl (gs_cons (gN 6 sc__law_rows.nd) (gs_cons (gN 7 sc__law_rows.nd) (gs_nil)))) (fun _ _ _ _ _ => pts0) (fun _ _ _ _ _ => e_bin o_add v_add (lk (e_bin o_add v_add (lk (e_bin o_add v_add (lk (e_str)) (lk (ev 6)))) (lk (e_str)))) (lk (ev 7))) (fun _ h => h))))) (lk (eLc sc__law_rows.nd [("one", 6), ("two", 7)] rfl (i_any rfl (ev 3)) (fun _ _ _ _ _ => g_tup rfl rfl (gs_cons (gN 6 sc__law_rows.nd) (gs_cons (gN 7 sc__law_rows.nd) (gs_nil)))) (fun _ _ _ _ _ => pts0) (fun _ _ _ _ _ => e_bin o_add v_add (lk (e_bin o_add v_add (lk (e_bin o_add v_add (lk (e_str)) (lk (ev 6)))) (lk (e_str)))) (lk (ev 7))) (fun _ h => h))))) (a_nil)))))
theorem sl_0 : NScope lam_0.N lam_0.ps lam_0.fr lam_0.scope := nscope_by (by decide +kernel)
theorem sl_1 : NScope lam_1.N lam_1.ps lam_1.fr lam_1.scope := nscope_by (by decide +kernel)
theorem sl_2 : NScope lam_2.N lam_2.ps lam_2.fr lam_2.scope := nscope_by (by decide +kernel)
theorem sl_3 : NScope lam_3.N lam_3.ps lam_3.fr lam_3.scope := nscope_by (by decide +kernel)
theorem lok_0 {g : G} {P : Program} {w : World} {mg : Str → Option Value} {base : Heap} {T : CT} {k : Nat} (F : Fc g mg) (hk : 3 ≤ k) (hT : TOk g P w mg base k T) : LamOk g P w mg base (k + 1) lam_0 (runL 2 3 (bl_0 T)) := by
  refine lam_ok (k := k) sl_0 (fun _ _ _ _ _ us hl => match us, hl with | [_, _], _ => rfl) fun q cl c f A outer s H E hr tk => ?_
  exact c_clo 2 tk hT rfl hr (by omega) (d_cons (ev 1) (d_nil))
theorem lok_1 {g : G} {P : Program} {w : World} {mg : Str → Option Value} {base : Heap} (F : Fc g mg) (c_is_name : Fn g P w mg base 2 "is_name" 1 m_is_name) (c_are_below : Fn g P w mg base 1 "are_below" 2 m_are_below) : LamOk g P w mg base (4) lam_1 (runL 2 2 (bl_1)) := by
  refine lam_ok (k := 3) sl_1 (fun _ _ _ _ _ us hl => match us, hl with | [_, _], _ => rfl) fun q cl c f A outer s H E hr tk => ?_
  exact e_and (c_fn c_is_name rfl tk hr (by decide) rfl (d_cons (ev 1) (d_nil))) (e_one (c_fn c_are_below rfl tk hr (by decide) rfl (d_cons (ev 0) (d_cons (ev 1) (d_nil)))))
theorem lok_2 {g : G} {P : Program} {w : World} {mg : Str → Option Value} {base : Heap} (F : Fc g mg) (c_is_up_to : Fn g P w mg base 3 "is_up_to" 2 m_is_up_to) : LamOk g P w mg base (4) lam_2 (runL 1 1 (bl_2)) := by
  refine lam_ok (k := 3) sl_2 (fun _ _ _ _ _ us hl => match us, hl with | [_], _ => rfl) fun q cl c f A outer s H E hr tk => ?_
  exact c_fn c_is_up_to rfl tk hr (by decide) rfl (d_cons (ev 0) (d_cons (e_glob rfl F.c_MOST_COUNT) (d_nil)))
theorem lok_3 {g : G} {P : Program} {w : World} {mg : Str → Option Value} {base : Heap} (F : Fc g mg) (c_is_meeting : Fn g P w mg base 3 "is_meeting" 2 m_is_meeting) (c_are_below : Fn g P w mg base 1 "are_below" 2 m_are_below) : LamOk g P w mg base (4) lam_3 (runL 2 4 (bl_3)) := by
  refine lam_ok (k := 3) sl_3 (fun _ _ _ _ _ us hl => match us, hl with | [_, _], _ => rfl) fun q cl c f A outer s H E hr tk => ?_
  exact e_and (c_fn c_is_meeting rfl tk hr (by decide) rfl (d_cons (ev 2) (d_cons (ev 1) (d_nil)))) (e_and (c_fn c_are_below rfl tk hr (by decide) rfl (d_cons (ev 0) (d_cons (ev 1) (d_nil)))) (e_one (e_cmp (o_notIn (units hr)) v_notIn (lk (ev 1)) (lk (ev 3)) (by rfl))))
theorem sc_wrong_in : FnScope ["value", "least", "most", "is_right", "index", "each"] ["value", "least", "most", "is_right"] (defScope s_wrong_in) := C8.fnScope_by (by decide +kernel)
theorem def_wrong_in {g : G} {P : Program} {w : World} {mg : Str → Option Value} {base : Heap} {T : CT} (F : Fc g mg) {c : Addr} (D0 : DefOk g.K mg "wrong_in" s_wrong_in c) (hT : TOk g P w mg base 5 T) : ∃ (f : Addr) (fd : FuncData), FnOk P w g.K mg base (L2.CX P w) 6 f fd ["value", "least", "most", "is_right"] (spF g 4 (m_wrong_in T)) ∧ mg "wrong_in" = some (.ref f) ∧ PySem.W.keepIn g.K (.ref f) = true ∧ Binds g.K fd ["value", "least", "most", "is_right"] [] ∧ L2.Fun g.K "wrong_in" "wrong_in" s_wrong_in f fd := by
  refine fn_def (N := ["value", "least", "most", "is_right", "index", "each"]) (ps := ["value", "least", "most", "is_right"]) (k := 5) (b := b_wrong_in T) D0 sc_wrong_in (fun _ _ _ _ _ _ us hl => match us, hl with | [_, _, _, _], _ => rfl) fun f A outer s H E hr tk => ?_
  exact ss_cons (s_if (PW.pt (w_or (t_not (t_val (e_isi (n := .tup) rfl rfl F.n_isinstance rfl F.n_tuple rfl (lk (ev 0))))) (w_or1 (t_cmp (o_lt (units0 hr)) v_lt (lk (e_callB o_len v_len rfl F.n_len (by decide +kernel) (a_cons (lk (ev 0)) (a_nil)))) (lk (ev 1)) (by rfl))))) (ss_one (s_ret (e_lst (d_cons (e_non) (d_nil))))) (ss_nil)) (ss_cons (s_for (passes_of rfl) rfl (i_enum rfl rfl F.n_enumerate (d_cons (ev 0) (d_nil))) (g_tup rfl rfl (gs_cons (gN 4 sc_wrong_in.nd) (gs_cons (gN 5 sc_wrong_in.nd) (gs_nil)))) (ss_one (s_if (PW.pt (w_or (t_cmp (op_eqD (units64 hr)) v_eq (lk (ev 4)) (lk (ev 2)) (by rfl)) (w_or1 (t_not (t_val (c_clo 3 tk hT rfl hr (by decide) (d_cons (e_sl rfl (lk (ev 0)) (p_no) (p_some (ev 4))) (d_cons (ev 5) (d_nil))))))))) (ss_one (s_ret (e_lst (d_cons (ev 4) (d_nil))))) (ss_nil)))) (ss_one (s_ret (e_lst (d_nil)))))
theorem sc_wrong_in_all : FnScope ["value", "many", "is_right"] ["value", "many", "is_right"] (defScope s_wrong_in_all) := C8.fnScope_by (by decide +kernel)
theorem def_wrong_in_all {g : G} {P : Program} {w : World} {mg : Str → Option Value} {base : Heap} (F : Fc g mg) {c : Addr} (D0 : DefOk g.K mg "wrong_in_all" s_wrong_in_all c) (c_is_tuple_of : Fn g P w mg base 1 "is_tuple_of" 2 m_is_tuple_of) (c_wrong_in : Fn g P w mg base 6 "wrong_in" 4 (m_wrong_in T)) {Pt : Addr} (TB : LamX.TabB base mg c Pt) (hPt : (Pt, fun _ _ => lamNm "wrong_in_all" (defScope s_wrong_in_all)) ∈ g.tabs) (huP : ∀ p ∈ g.tabs, p.1 = Pt → p.2 = fun _ _ => lamNm "wrong_in_all" (defScope s_wrong_in_all)) (hl_0 : g.lam 0 = some lam_0) : ∃ (f : Addr) (fd : FuncData), FnOk P w g.K mg base (L2.CX P w) 7 f fd ["value", "many", "is_right"] (spF g 3 (m_wrong_in_all T)) ∧ mg "wrong_in_all" = some (.ref f) ∧ PySem.W.keepIn g.K (.ref f) = true ∧ Binds g.K fd ["value", "many", "is_right"] [] ∧ L2.Fun g.K "wrong_in_all" "wrong_in_all" s_wrong_in_all f fd := by
  refine fn_def (N := ["value", "many", "is_right"]) (ps := ["value", "many", "is_right"]) (k := 6) (b := b_wrong_in_all T) D0 sc_wrong_in_all (fun _ _ _ _ _ _ us hl => match us, hl with | [_, _, _], _ => rfl) fun f A outer s H E hr tk => ?_
  have M : Mks g (cxOf (L2.CX P w) P w g.K mg base ["value", "many", "is_right"] "wrong_in_all" (defScope s_wrong_in_all) f (.ref c) A outer s H E) (lamQ (cxOf (L2.CX P w) P w g.K mg base ["value", "many", "is_right"] "wrong_in_all" (defScope s_wrong_in_all) f (.ref c) A outer s H E)) := mks_of TB rfl hPt (fun _ _ => rfl) huP
  have lt_0 : LamT g (cxOf (L2.CX P w) P w g.K mg base ["value", "many", "is_right"] "wrong_in_all" (defScope s_wrong_in_all) f (.ref c) A outer s H E) 0 lam_0 [2] := ⟨hl_0, sl_0, by rfl, rfl, own_by (by rfl), rfl⟩
  exact ss_one (s_ret (e_if (t_val (c_fn c_is_tuple_of rfl tk hr (by decide) rfl (d_cons (ev 0) (d_cons (ev 1) (d_nil))))) (c_fnL lt_0 c_wrong_in rfl tk hr (by decide) rfl (l_cons (ev 0) (l_cons (ev 1) (l_cons (ev 1) (l_last M lt_0))))) (e_lst (d_cons (e_non) (d_nil)))))
theorem sc_wrong_in_people : FnScope ["value"] ["value"] (defScope s_wrong_in_people) := C8.fnScope_by (by decide +kernel)
theorem def_wrong_in_people {g : G} {P : Program} {w : World} {mg : Str → Option Value} {base : Heap} (F : Fc g mg) {c : Addr} (D0 : DefOk g.K mg "wrong_in_people" s_wrong_in_people c) (c_wrong_in : Fn g P w mg base 6 "wrong_in" 4 (m_wrong_in T)) {Pt : Addr} (TB : LamX.TabB base mg c Pt) (hPt : (Pt, fun _ _ => lamNm "wrong_in_people" (defScope s_wrong_in_people)) ∈ g.tabs) (huP : ∀ p ∈ g.tabs, p.1 = Pt → p.2 = fun _ _ => lamNm "wrong_in_people" (defScope s_wrong_in_people)) (hl_1 : g.lam 1 = some lam_1) : ∃ (f : Addr) (fd : FuncData), FnOk P w g.K mg base (L2.CX P w) 7 f fd ["value"] (spF g 1 m_wrong_in_people) ∧ mg "wrong_in_people" = some (.ref f) ∧ PySem.W.keepIn g.K (.ref f) = true ∧ Binds g.K fd ["value"] [] ∧ L2.Fun g.K "wrong_in_people" "wrong_in_people" s_wrong_in_people f fd := by
  refine fn_def (N := ["value"]) (ps := ["value"]) (k := 6) (b := b_wrong_in_people) D0 sc_wrong_in_people (fun _ _ _ _ _ _ us hl => match us, hl with | [_], _ => rfl) fun f A outer s H E hr tk => ?_
  have M : Mks g (cxOf (L2.CX P w) P w g.K mg base ["value"] "wrong_in_people" (defScope s_wrong_in_people) f (.ref c) A outer s H E) (lamQ (cxOf (L2.CX P w) P w g.K mg base ["value"] "wrong_in_people" (defScope s_wrong_in_people) f (.ref c) A outer s H E)) := mks_of TB rfl hPt (fun _ _ => rfl) huP
  have lt_1 : LamT g (cxOf (L2.CX P w) P w g.K mg base ["value"] "wrong_in_people" (defScope s_wrong_in_people) f (.ref c) A outer s H E) 1 lam_1 [] := ⟨hl_1, sl_1, by rfl, rfl, own_by (by rfl), rfl⟩
  exact ss_one (s_ret (c_fnL lt_1 c_wrong_in rfl tk hr (by decide) rfl (l_cons (ev 0) (l_cons (e_int) (l_cons (e_glob rfl F.c_MOST_PEOPLE) (l_last M lt_1))))))
theorem sc_wrong_in_counts : FnScope ["people", "value"] ["people", "value"] (defScope s_wrong_in_counts) := C8.fnScope_by (by decide +kernel)
theorem def_wrong_in_counts {g : G} {P : Program} {w : World} {mg : Str → Option Value} {base : Heap} (F : Fc g mg) {c : Addr} (D0 : DefOk g.K mg "wrong_in_counts" s_wrong_in_counts c) (c_wrong_in_all : Fn g P w mg base 7 "wrong_in_all" 3 (m_wrong_in_all T)) {Pt : Addr} (TB : LamX.TabB base mg c Pt) (hPt : (Pt, fun _ _ => lamNm "wrong_in_counts" (defScope s_wrong_in_counts)) ∈ g.tabs) (huP : ∀ p ∈ g.tabs, p.1 = Pt → p.2 = fun _ _ => lamNm "wrong_in_counts" (defScope s_wrong_in_counts)) (hl_2 : g.lam 2 = some lam_2) : ∃ (f : Addr) (fd : FuncData), FnOk P w g.K mg base (L2.CX P w) 8 f fd ["people", "value"] (spF g 2 m_wrong_in_counts) ∧ mg "wrong_in_counts" = some (.ref f) ∧ PySem.W.keepIn g.K (.ref f) = true ∧ Binds g.K fd ["people", "value"] [] ∧ L2.Fun g.K "wrong_in_counts" "wrong_in_counts" s_wrong_in_counts f fd := by
  refine fn_def (N := ["people", "value"]) (ps := ["people", "value"]) (k := 7) (b := b_wrong_in_counts) D0 sc_wrong_in_counts (fun _ _ _ _ _ _ us hl => match us, hl with | [_, _], _ => rfl) fun f A outer s H E hr tk => ?_
  have M : Mks g (cxOf (L2.CX P w) P w g.K mg base ["people", "value"] "wrong_in_counts" (defScope s_wrong_in_counts) f (.ref c) A outer s H E) (lamQ (cxOf (L2.CX P w) P w g.K mg base ["people", "value"] "wrong_in_counts" (defScope s_wrong_in_counts) f (.ref c) A outer s H E)) := mks_of TB rfl hPt (fun _ _ => rfl) huP
  have lt_2 : LamT g (cxOf (L2.CX P w) P w g.K mg base ["people", "value"] "wrong_in_counts" (defScope s_wrong_in_counts) f (.ref c) A outer s H E) 2 lam_2 [] := ⟨hl_2, sl_2, by rfl, rfl, own_by (by rfl), rfl⟩
  exact ss_one (s_ret (c_fnL lt_2 c_wrong_in_all rfl tk hr (by decide) rfl (l_cons (ev 1) (l_cons (e_callB o_len v_len rfl F.n_len (by decide +kernel) (a_cons (lk (ev 0)) (a_nil))) (l_last M lt_2)))))
theorem sc_wrong_in_meetings : FnScope ["people", "value", "others"] ["people", "value", "others"] (defScope s_wrong_in_meetings) := C8.fnScope_by (by decide +kernel)
theorem def_wrong_in_meetings {g : G} {P : Program} {w : World} {mg : Str → Option Value} {base : Heap} (F : Fc g mg) {c : Addr} (D0 : DefOk g.K mg "wrong_in_meetings" s_wrong_in_meetings c) (c_wrong_in : Fn g P w mg base 6 "wrong_in" 4 (m_wrong_in T)) {Pt : Addr} (TB : LamX.TabB base mg c Pt) (hPt : (Pt, fun _ _ => lamNm "wrong_in_meetings" (defScope s_wrong_in_meetings)) ∈ g.tabs) (huP : ∀ p ∈ g.tabs, p.1 = Pt → p.2 = fun _ _ => lamNm "wrong_in_meetings" (defScope s_wrong_in_meetings)) (hl_3 : g.lam 3 = some lam_3) : ∃ (f : Addr) (fd : FuncData), FnOk P w g.K mg base (L2.CX P w) 7 f fd ["people", "value", "others"] (spF g 3 m_wrong_in_meetings) ∧ mg "wrong_in_meetings" = some (.ref f) ∧ PySem.W.keepIn g.K (.ref f) = true ∧ Binds g.K fd ["people", "value", "others"] [] ∧ L2.Fun g.K "wrong_in_meetings" "wrong_in_meetings" s_wrong_in_meetings f fd := by
  refine fn_def (N := ["people", "value", "others"]) (ps := ["people", "value", "others"]) (k := 6) (b := b_wrong_in_meetings) D0 sc_wrong_in_meetings (fun _ _ _ _ _ _ us hl => match us, hl with | [_, _, _], _ => rfl) fun f A outer s H E hr tk => ?_
  have M : Mks g (cxOf (L2.CX P w) P w g.K mg base ["people", "value", "others"] "wrong_in_meetings" (defScope s_wrong_in_meetings) f (.ref c) A outer s H E) (lamQ (cxOf (L2.CX P w) P w g.K mg base ["people", "value", "others"] "wrong_in_meetings" (defScope s_wrong_in_meetings) f (.ref c) A outer s H E)) := mks_of TB rfl hPt (fun _ _ => rfl) huP
  have lt_3 : LamT g (cxOf (L2.CX P w) P w g.K mg base ["people", "value", "others"] "wrong_in_meetings" (defScope s_wrong_in_meetings) f (.ref c) A outer s H E) 3 lam_3 [0, 2] := ⟨hl_3, sl_3, by rfl, rfl, own_by (by rfl), rfl⟩
  exact ss_one (s_ret (c_fnL lt_3 c_wrong_in rfl tk hr (by decide) rfl (l_cons (ev 1) (l_cons (e_int) (l_cons (e_non) (l_last M lt_3))))))
theorem sc_check_people : FnScope ["people", "index"] ["people"] (defScope s_check_people) := C8.fnScope_by (by decide +kernel)
theorem def_check_people {g : G} {P : Program} {w : World} {mg : Str → Option Value} {base : Heap} (F : Fc g mg) {c : Addr} (D0 : DefOk g.K mg "check_people" s_check_people c) (c_wrong_in_people : Fn g P w mg base 7 "wrong_in_people" 1 m_wrong_in_people) : ∃ (f : Addr) (fd : FuncData), FnOk P w g.K mg base (L2.CX P w) 8 f fd ["people"] (spF g 1 m_check_people) ∧ mg "check_people" = some (.ref f) ∧ PySem.W.keepIn g.K (.ref f) = true ∧ Binds g.K fd ["people"] [] ∧ L2.Fun g.K "check_people" "check_people" s_check_people f fd := by
  refine fn_def (N := ["people", "index"]) (ps := ["people"]) (k := 7) (b := b_check_people) D0 sc_check_people (fun _ _ _ _ _ _ us hl => match us, hl with | [_], _ => rfl) fun f A outer s H E hr tk => ?_
  exact ss_one (s_for (passes_of rfl) rfl (i_any rfl (c_fn c_wrong_in_people rfl tk hr (by decide) rfl (d_cons (ev 0) (d_nil)))) (gN 1 sc_check_people.nd) (ss_one (s_er)))
theorem sc_check_counts : FnScope ["people", "counts", "index"] ["people", "counts"] (defScope s_check_counts) := C8.fnScope_by (by decide +kernel)
theorem def_check_counts {g : G} {P : Program} {w : World} {mg : Str → Option Value} {base : Heap} (F : Fc g mg) {c : Addr} (D0 : DefOk g.K mg "check_counts" s_check_counts c) (c_check_people : Fn g P w mg base 8 "check_people" 1 m_check_people) (c_wrong_in_counts : Fn g P w mg base 8 "wrong_in_counts" 2 m_wrong_in_counts) : ∃ (f : Addr) (fd : FuncData), FnOk P w g.K mg base (L2.CX P w) 9 f fd ["people", "counts"] (spF g 2 m_check_counts) ∧ mg "check_counts" = some (.ref f) ∧ PySem.W.keepIn g.K (.ref f) = true ∧ Binds g.K fd ["people", "counts"] [] ∧ L2.Fun g.K "check_counts" "check_counts" s_check_counts f fd := by
  refine fn_def (N := ["people", "counts", "index"]) (ps := ["people", "counts"]) (k := 8) (b := b_check_counts) D0 sc_check_counts (fun _ _ _ _ _ _ us hl => match us, hl with | [_, _], _ => rfl) fun f A outer s H E hr tk => ?_
  exact ss_cons (s_expr (c_fn c_check_people rfl tk hr (by decide) rfl (d_cons (ev 0) (d_nil)))) (ss_one (s_for (passes_of rfl) rfl (i_any rfl (c_fn c_wrong_in_counts rfl tk hr (by decide) rfl (d_cons (ev 0) (d_cons (ev 1) (d_nil))))) (gN 2 sc_check_counts.nd) (ss_one (s_er))))
theorem sc_check_yes_no : FnScope ["people", "yes", "no", "index"] ["people", "yes", "no"] (defScope s_check_yes_no) := C8.fnScope_by (by decide +kernel)
theorem def_check_yes_no {g : G} {P : Program} {w : World} {mg : Str → Option Value} {base : Heap} (F : Fc g mg) {c : Addr} (D0 : DefOk g.K mg "check_yes_no" s_check_yes_no c) (c_wrong_in_meetings : Fn g P w mg base 7 "wrong_in_meetings" 3 m_wrong_in_meetings) : ∃ (f : Addr) (fd : FuncData), FnOk P w g.K mg base (L2.CX P w) 8 f fd ["people", "yes", "no"] (spF g 3 m_check_yes_no) ∧ mg "check_yes_no" = some (.ref f) ∧ PySem.W.keepIn g.K (.ref f) = true ∧ Binds g.K fd ["people", "yes", "no"] [] ∧ L2.Fun g.K "check_yes_no" "check_yes_no" s_check_yes_no f fd := by
  refine fn_def (N := ["people", "yes", "no", "index"]) (ps := ["people", "yes", "no"]) (k := 7) (b := b_check_yes_no) D0 sc_check_yes_no (fun _ _ _ _ _ _ us hl => match us, hl with | [_, _, _], _ => rfl) fun f A outer s H E hr tk => ?_
  exact ss_cons (s_for (passes_of rfl) rfl (i_any rfl (c_fn c_wrong_in_meetings rfl tk hr (by decide) rfl (d_cons (ev 0) (d_cons (ev 1) (d_cons (e_tup (d_nil)) (d_nil)))))) (gN 3 sc_check_yes_no.nd) (ss_one (s_er))) (ss_one (s_for (passes_of rfl) rfl (i_any rfl (c_fn c_wrong_in_meetings rfl tk hr (by decide) rfl (d_cons (ev 0) (d_cons (ev 2) (d_cons (ev 1) (d_nil)))))) (gN 3 sc_check_yes_no.nd) (ss_one (s_er))))
theorem sc_check_told : FnScope ["people", "counts", "yes", "no"] ["people", "counts", "yes", "no"] (defScope s_check_told) := C8.fnScope_by (by decide +kernel)
theorem def_check_told {g : G} {P : Program} {w : World} {mg : Str → Option Value} {base : Heap} (F : Fc g mg) {c : Addr} (D0 : DefOk g.K mg "check_told" s_check_told c) (c_check_counts : Fn g P w mg base 9 "check_counts" 2 m_check_counts) (c_check_yes_no : Fn g P w mg base 8 "check_yes_no" 3 m_check_yes_no) : ∃ (f : Addr) (fd : FuncData), FnOk P w g.K mg base (L2.CX P w) 10 f fd ["people", "counts", "yes", "no"] (spF g 4 m_check_told) ∧ mg "check_told" = some (.ref f) ∧ PySem.W.keepIn g.K (.ref f) = true ∧ Binds g.K fd ["people", "counts", "yes", "no"] [] ∧ L2.Fun g.K "check_told" "check_told" s_check_told f fd := by
  refine fn_def (N := ["people", "counts", "yes", "no"]) (ps := ["people", "counts", "yes", "no"]) (k := 9) (b := b_check_told) D0 sc_check_told (fun _ _ _ _ _ _ us hl => match us, hl with | [_, _, _, _], _ => rfl) fun f A outer s H E hr tk => ?_
  exact ss_cons (s_expr (c_fn c_check_counts rfl tk hr (by decide) rfl (d_cons (ev 0) (d_cons (ev 1) (d_nil))))) (ss_one (s_expr (c_fn c_check_yes_no rfl tk hr (by decide) rfl (d_cons (ev 0) (d_cons (ev 2) (d_cons (ev 3) (d_nil)))))))
theorem sc_told_rows : FnScope ["people", "counts", "yes", "no"] ["people", "counts", "yes", "no"] (defScope s_told_rows) := C8.fnScope_by (by decide +kernel)
theorem def_told_rows {g : G} {P : Program} {w : World} {mg : Str → Option Value} {base : Heap} (F : Fc g mg) {c : Addr} (D0 : DefOk g.K mg "told_rows" s_told_rows c) (c_check_told : Fn g P w mg base 10 "check_told" 4 m_check_told) (c_rows_by : Fn g P w mg base 1 "rows_by" 4 m_rows_by) : ∃ (f : Addr) (fd : FuncData), FnOk P w g.K mg base (L2.CX P w) 11 f fd ["people", "counts", "yes", "no"] (spF g 4 m_told_rows) ∧ mg "told_rows" = some (.ref f) ∧ PySem.W.keepIn g.K (.ref f) = true ∧ Binds g.K fd ["people", "counts", "yes", "no"] [] ∧ L2.Fun g.K "told_rows" "told_rows" s_told_rows f fd := by
  refine fn_def (N := ["people", "counts", "yes", "no"]) (ps := ["people", "counts", "yes", "no"]) (k := 10) (b := b_told_rows) D0 sc_told_rows (fun _ _ _ _ _ _ us hl => match us, hl with | [_, _, _, _], _ => rfl) fun f A outer s H E hr tk => ?_
  exact ss_cons (s_expr (c_fn c_check_told rfl tk hr (by decide) rfl (d_cons (ev 0) (d_cons (ev 1) (d_cons (ev 2) (d_cons (ev 3) (d_nil))))))) (ss_one (s_ret (c_fn c_rows_by rfl tk hr (by decide) rfl (d_cons (ev 0) (d_cons (ev 1) (d_cons (ev 2) (d_cons (ev 3) (d_nil))))))))
theorem sc_read_told : FnScope ["rows", "index", "people", "counts", "yes", "no"] ["rows"] (defScope s_read_told) := C8.fnScope_by (by decide +kernel)
theorem def_read_told {g : G} {P : Program} {w : World} {mg : Str → Option Value} {base : Heap} (F : Fc g mg) {c : Addr} (D0 : DefOk g.K mg "read_told" s_read_told c) (c_wrong_in_rows : Fn g P w mg base 3 "wrong_in_rows" 1 m_wrong_in_rows) (c_rows_told : Fn g P w mg base 3 "rows_told" 1 m_rows_told) (c_check_told : Fn g P w mg base 10 "check_told" 4 m_check_told) : ∃ (f : Addr) (fd : FuncData), FnOk P w g.K mg base (L2.CX P w) 11 f fd ["rows"] (spF g 1 m_read_told) ∧ mg "read_told" = some (.ref f) ∧ PySem.W.keepIn g.K (.ref f) = true ∧ Binds g.K fd ["rows"] [] ∧ L2.Fun g.K "read_told" "read_told" s_read_told f fd := by
  refine fn_def (N := ["rows", "index", "people", "counts", "yes", "no"]) (ps := ["rows"]) (k := 10) (b := b_read_told) D0 sc_read_told (fun _ _ _ _ _ _ us hl => match us, hl with | [_], _ => rfl) fun f A outer s H E hr tk => ?_
  exact ss_cons (s_for (passes_of rfl) rfl (i_any rfl (c_fn c_wrong_in_rows rfl tk hr (by decide) rfl (d_cons (ev 0) (d_nil)))) (gN 1 sc_read_told.nd) (ss_one (s_er))) (ss_cons (s_asg (c_fn c_rows_told rfl tk hr (by decide) rfl (d_cons (ev 0) (d_nil))) (u_tup rfl rfl (us_cons (uN 2 sc_read_told.nd) (us_cons (uN 3 sc_read_told.nd) (us_cons (uN 4 sc_read_told.nd) (us_cons (uN 5 sc_read_told.nd) (us_nil))))))) (ss_cons (s_expr (c_fn c_check_told rfl tk hr (by decide) rfl (d_cons (ev 2) (d_cons (ev 3) (d_cons (ev 4) (d_cons (ev 5) (d_nil))))))) (ss_one (s_ret (e_tup (d_cons (ev 2) (d_cons (ev 3) (d_cons (ev 4) (d_cons (ev 5) (d_nil))))))))))
theorem sc__law_right : FnScope ["well", "people", "counts", "rows", "yes", "no", "due", "name"] ["well"] (defScope s__law_right) := C8.fnScope_by (by decide +kernel)
theorem def__law_right {g : G} {P : Program} {w : World} {mg : Str → Option Value} {base : Heap} (F : Fc g mg) {c : Addr} (D0 : DefOk g.K mg "_law_right" s__law_right c) (c__law_names : Fn g P w mg base 3 "_law_names" 2 m__law_names) (c__law_draw : Fn g P w mg base 1 "_law_draw" 2 m__law_draw) (c__law_two_rows : Fn g P w mg base 2 "_law_two_rows" 2 m__law_two_rows) (c__law_rows : Fn g P w mg base 1 "_law_rows" 4 m__law_rows) (c__law_same : Fn g P w mg base 9 "_law_same" 2 m__law_same) (c_told_rows : Fn g P w mg base 11 "told_rows" 4 m_told_rows) (c_read_told : Fn g P w mg base 11 "read_told" 1 m_read_told) (k_read_told : FnK g P w mg base 11 "read_told" 1 m_read_told ["rows"] [0]) (k_told_rows : FnK g P w mg base 11 "told_rows" 4 m_told_rows ["no", "yes", "counts", "people"] [3, 2, 1, 0]) : ∃ (f : Addr) (fd : FuncData), FnOk P w g.K mg base (L2.CX P w) 12 f fd ["well"] (spF g 1 m__law_right) ∧ mg "_law_right" = some (.ref f) ∧ PySem.W.keepIn g.K (.ref f) = true ∧ Binds g.K fd ["well"] [] ∧ L2.Fun g.K "_law_right" "_law_right" s__law_right f fd := by
  refine fn_def (N := ["well", "people", "counts", "rows", "yes", "no", "due", "name"]) (ps := ["well"]) (k := 11) (b := b__law_right) D0 sc__law_right (fun _ _ _ _ _ _ us hl => match us, hl with | [_], _ => rfl) fun f A outer s H E hr tk => ?_
  exact ss_cons (sN 1 sc__law_right.nd (c_fn c__law_names rfl tk hr (by decide) rfl (d_cons (ev 0) (d_cons (e_bin o_add v_add (lk (e_int)) (lk (c_fn c__law_draw rfl tk hr (by decide) rfl (d_cons (ev 0) (d_cons (e_int) (d_nil)))))) (d_nil))))) (ss_cons (sP 2 3 sc__law_right.nd (d_cons (e_callTy o_tuple v_tuple rfl F.n_tuple (by decide +kernel) (a_cons (lk (eLc sc__law_right.nd [("name", 7)] rfl (i_any rfl (ev 1)) (fun _ _ _ _ _ => gN 7 sc__law_right.nd) (fun _ _ _ _ _ => pts0) (fun _ _ _ _ _ => c_fn c__law_draw rfl MP.takes0 hr (by decide) rfl (d_cons (ev 0) (d_cons (e_int) (d_nil)))) (fun _ h => h))) (a_nil))) (d_cons (c_fn c__law_two_rows rfl tk hr (by decide) rfl (d_cons (ev 0) (d_cons (ev 1) (d_nil)))) (d_nil)))) (ss_cons (s_asg (e_if (t_cmp o_gt v_gt (lk (c_fn c__law_draw rfl tk hr (by decide) rfl (d_cons (ev 0) (d_cons (e_int) (d_nil))))) (lk (e_int)) (by rfl)) (ev 3) (e_tup (d_cons (e_tup (d_nil)) (d_cons (e_tup (d_nil)) (d_nil))))) (u_tup rfl rfl (us_cons (uN 4 sc__law_right.nd) (us_cons (uN 5 sc__law_right.nd) (us_nil))))) (ss_cons (sN 6 sc__law_right.nd (c_fn c__law_rows rfl tk hr (by decide) rfl (d_cons (ev 1) (d_cons (ev 2) (d_cons (ev 4) (d_cons (ev 5) (d_nil))))))) (ss_cons (s_if (t_not (t_val (c_fn c__law_same rfl tk hr (by decide) rfl (d_cons (e_tup (d_cons (c_fn c_told_rows rfl tk hr (by decide) rfl (d_cons (ev 1) (d_cons (ev 2) (d_cons (ev 4) (d_cons (ev 5) (d_nil)))))) (d_cons (c_fnK (x := "told_rows") (ks := ["no", "yes", "counts", "people"]) (pm := [3, 2, 1, 0]) (m := m_told_rows) (n := 4) k_told_rows rfl tk hr (by decide) rfl (k_cons (ev 5) (k_cons (ev 4) (k_cons (ev 2) (k_cons (ev 1) (k_nil))))) (by intro ds hds; match ds, hds with | [_, _, _, _], _ => rfl)) (d_nil)))) (d_cons (e_tup (d_cons (ev 6) (d_cons (ev 6) (d_nil)))) (d_nil)))))) (ss_one (s_ret (e_bl))) (ss_nil)) (ss_one (s_ret (c_fn c__law_same rfl tk hr (by decide) rfl (d_cons (e_tup (d_cons (c_fn c_read_told rfl tk hr (by decide) rfl (d_cons (ev 6) (d_nil))) (d_cons (c_fnK (x := "read_told") (ks := ["rows"]) (pm := [0]) (m := m_read_told) (n := 1) k_read_told rfl tk hr (by decide) rfl (k_cons (ev 6) (k_nil)) (by intro ds hds; match ds, hds with | [_], _ => rfl)) (d_nil)))) (d_cons (e_bin o_mul v_mul (lk (e_tup (d_cons (e_tup (d_cons (ev 1) (d_cons (ev 2) (d_cons (ev 4) (d_cons (ev 5) (d_nil)))))) (d_nil)))) (lk (e_int))) (d_nil))))))))))
theorem sc_law : FnScope ["script", "wells", "lap"] ["script"] (defScope s_law) := C8.fnScope_by (by decide +kernel)
theorem def_law {g : G} {P : Program} {w : World} {mg : Str → Option Value} {base : Heap} (F : Fc g mg) {c : Addr} (D0 : DefOk g.K mg "law" s_law c) (c__law_well : Fn g P w mg base 1 "_law_well" 2 m__law_well) (c__law_right : Fn g P w mg base 12 "_law_right" 1 m__law_right) : ∃ (f : Addr) (fd : FuncData), FnOk P w g.K mg base (L2.CX P w) 13 f fd ["script"] (spF g 1 m_law) ∧ mg "law" = some (.ref f) ∧ PySem.W.keepIn g.K (.ref f) = true ∧ Binds g.K fd ["script"] [] ∧ L2.Fun g.K "law" "law" s_law f fd := by
  refine fn_def (N := ["script", "wells", "lap"]) (ps := ["script"]) (k := 12) (b := b_law) D0 sc_law (fun _ _ _ _ _ _ us hl => match us, hl with | [_], _ => rfl) fun f A outer s H E hr tk => ?_
  exact ss_cons (sN 1 sc_law.nd (eLc sc_law.nd [("lap", 2)] rfl (i_range1 rfl F.n_range (d_cons (e_callB (call_max2 rfl) v_max2 rfl F.n_max (by decide +kernel) (a_cons (lk (e_int)) (a_cons (lk (e_callB (call_min2 rfl) v_min2 rfl F.n_min (by decide +kernel) (a_cons (lk (e_callB o_len v_len rfl F.n_len (by decide +kernel) (a_cons (lk (ev 0)) (a_nil)))) (a_cons (lk (e_int)) (a_nil))))) (a_nil)))) (d_nil))) (fun _ _ _ _ _ => gN 2 sc_law.nd) (fun _ _ _ _ _ => pts0) (fun _ _ _ _ _ => c_fn c__law_well rfl MP.takes0 hr (by decide) rfl (d_cons (ev 0) (d_cons (ev 2) (d_nil)))) (fun _ h => h))) (ss_one (s_ret (e_callB (cr_all rfl) v_all rfl F.n_all (by decide +kernel) (a_cons (lk (eLc sc_law.nd [("lap", 2)] rfl (i_range1 rfl F.n_range (d_cons (e_int) (d_nil))) (fun _ _ _ _ _ => gN 2 sc_law.nd) (fun _ _ _ _ _ => pts0) (fun _ _ _ _ _ => c_fn c__law_right rfl MP.takes0 hr (by decide) rfl (d_cons (e_ix ix_seq v_ix (lk (ev 1)) (lk (e_bin op_mod v_mod (lk (e_callTy o_int v_int rfl F.n_int (by decide +kernel) (a_cons (lk (ev 2)) (a_nil)))) (lk (e_callB o_len v_len rfl F.n_len (by decide +kernel) (a_cons (lk (ev 1)) (a_nil)))))) (by intro _ _; rfl)) (d_nil))) (fun _ h => h))) (a_nil)))))
theorem kw_read_told {g : G} {P : Program} {w : World} {mg : Str → Option Value} {base : Heap} (F : Fc g mg) {c : Addr} (D0 : DefOk g.K mg "read_told" s_read_told c) (c_wrong_in_rows : Fn g P w mg base 3 "wrong_in_rows" 1 m_wrong_in_rows) (c_rows_told : Fn g P w mg base 3 "rows_told" 1 m_rows_told) (c_check_told : Fn g P w mg base 10 "check_told" 4 m_check_told) : FnK g P w mg base 11 "read_told" 1 m_read_told ["rows"] [0] := fnK_of_def (def_read_told F D0 c_wrong_in_rows c_rows_told c_check_told) (fun _ _ _ _ _ _ us ws h1 h2 => match us, ws, h1, h2 with | [], [_], _, _ => rfl)
theorem kw_told_rows {g : G} {P : Program} {w : World} {mg : Str → Option Value} {base : Heap} (F : Fc g mg) {c : Addr} (D0 : DefOk g.K mg "told_rows" s_told_rows c) (c_check_told : Fn g P w mg base 10 "check_told" 4 m_check_told) (c_rows_by : Fn g P w mg base 1 "rows_by" 4 m_rows_by) : FnK g P w mg base 11 "told_rows" 4 m_told_rows ["no", "yes", "counts", "people"] [3, 2, 1, 0] := fnK_of_def (def_told_rows F D0 c_check_told c_rows_by) (fun _ _ _ _ _ _ us ws h1 h2 => match us, ws, h1, h2 with | [], [_, _, _, _], _, _ => rfl)

end K85

set_option Elab.async false
set_option linter.all false
set_option maxRecDepth 100000
set_option maxHeartbeats 4000000
namespace K85
open PySem PySem.Spec PyProof.Rows L2 NdefX MP
theorem is_whole_int (i : Int) (μ : Sto) : m_is_whole [.int i] μ = .ok (.bl true) μ := by
  simp [m_is_whole, b_is_whole, runF, dIsi, tyD, isiB]
theorem is_between_int (i a b : Int) (μ : Sto) : m_is_between [.int i, .int a, .int b] μ = .ok (.bl (decide (a ≤ i) && decide (i ≤ b))) μ := by
  by_cases h : a ≤ i <;> simp [m_is_between, b_is_between, runF, is_whole_int, dLe, h]
theorem is_up_to_int (i b : Int) (μ : Sto) : m_is_up_to [.int i, .int b] μ = .ok (.bl (decide (0 ≤ i) && decide (i ≤ b))) μ := by
  simp [m_is_up_to, b_is_up_to, runF, is_between_int]
theorem is_tuple_of_tup (ds : List D) (n : Int) (μ : Sto) : m_is_tuple_of [.tup ds, .int n] μ = .ok (.bl (decide ((ds.length : Int) = n))) μ := by
  simp [m_is_tuple_of, b_is_tuple_of, runF, dIsi, tyD, isiB, dLen, dEq]
theorem is_pair_tup (ds : List D) (μ : Sto) : m_is_pair [.tup ds] μ = .ok (.bl (decide ((ds.length : Int) = 2))) μ := by
  simp [m_is_pair, b_is_pair, runF, is_tuple_of_tup]
/-! words -/
def lets (s : Str) : Prop := ∀ c ∈ s.cps.toList, 97 ≤ c ∧ c ≤ 122
theorem letters_cps : (PySem.Str.ofString "abcdefghijklmnopqrstuvwxyz").cps.toList = [97,98,99,100,101,102,103,104,105,106,107,108,109,110,111,112,113,114,115,116,117,118,119,120,121,122] := by decide +kernel
theorem mem_letters {c : Nat} : c ∈ (PySem.Str.ofString "abcdefghijklmnopqrstuvwxyz").cps.toList ↔ 97 ≤ c ∧ c ≤ 122 := by
  rw [letters_cps]
  simp only [List.mem_cons, List.not_mem_nil, or_false]
  omega
theorem lets_ok {s : Str} (h : lets s) : okS s := by
  unfold okS PyData.strOk
  rw [Array.all_eq_true_iff_forall_mem]
  intro c hc
  have := h c (by simpa using hc)
  simp only [decide_eq_true_eq]
  omega
theorem empty_ok : okS (PySem.Str.ofString "") := by show PyData.strOk _ = true; decide +kernel
theorem is_word_lets {s : Str} (h : lets s) (h1 : 1 ≤ s.length) (h2 : s.length ≤ big) (μ : Sto) : m_is_word [.str s] μ = .ok (.bl true) μ := by
  have ne : ¬ s = PySem.Str.ofString "" := fun z => by
    rw [z] at h1
    exact absurd h1 (by decide +kernel)
  have hl : (signsD s).length ≤ big := by
    unfold signsD
    rw [List.length_map]
    exact h2
  have hc : compL (tName 1) mTrue (m2 dIn (mVal 1) (mC c_LETTERS)) [Sl.val (.str s), Sl.un] (signsD s) μ = .ok ((signsD s).map fun _ => D.bl true) μ := by
    refine compL_map fun d hd => ?_
    obtain ⟨c, hc, rfl⟩ := List.mem_map.mp hd
    refine ⟨_, rfl, rfl, ?_⟩
    have := mem_letters.mpr (h c hc)
    simp [dIn, c_LETTERS, inD_sign, this]
  have hb : ∀ l : List D, blsD (l.map fun _ => D.bl true) = some (l.map fun _ => true) := fun l => by
    induction l with
    | nil => rfl
    | cons x xs ih => rw [List.map_cons, blsD, ih]; rfl
  simp [m_is_word, b_is_word, runF, dIsi, tyD, isiB, dNe, eqD_str (lets_ok h) empty_ok, ne, hl, hc, dAll, hb]
/-! names -/
def wordsL : List Str := ["all", "book", "can", "case", "count", "day", "days", "how", "is", "met", "never", "no", "none", "not", "of", "open", "or", "people", "quit", "strike", "sure", "tell", "undo", "web", "yes"]
theorem words_ok : ∀ x ∈ wordsL, okS x := by
  have : wordsL.all (fun x => PyData.strOk x) = true := by decide +kernel
  exact List.all_eq_true.mp this
structure Nm (s : Str) : Prop where
  lets : lets s
  pos : 1 ≤ s.length
  most : s.length ≤ 8
  nw : s ∉ wordsL
theorem Nm.ok {s : Str} (h : Nm s) : okS s := lets_ok h.lets
theorem small_big {n : Nat} (h : n ≤ 1000) : n ≤ big := by unfold big; omega
theorem is_name_nm {s : Str} (h : Nm s) (μ : Sto) : m_is_name [.str s] μ = .ok (.bl true) μ := by
  have hb : s.length ≤ big := small_big (by have := h.most; omega)
  have h8 : (s.length : Int) ≤ 8 := by have := h.most; omega
  have hw : inD μ (.str s) c_WORDS = some (decide (s ∈ wordsL)) := inD_tupS h.ok words_ok
  simp [m_is_name, b_is_name, runF, is_word_lets h.lets h.pos hb, dLen, hb, dLe, c_MOST_LETTERS, h8, dNotIn, hw, h.nw]
/-! rising -/
def below (xs : List D) (y : D) : Option Bool := match xs with
  | [] => some true
  | _ => match atI xs (-1) with
    | some x => match dLt [] x y with
      | some (.bl b) => some b
      | _ => none
    | _ => none
theorem eq_nil_tup (xs : List D) (h : xs ≠ []) {ps : List PyData} (hp : pyds xs = some ps) (hs : SeqAt.shaped (.tuple ps) = true) : eqD (.tup xs) (.tup []) = some false := by
  cases xs with
  | nil => exact absurd rfl h
  | cons x xs =>
    have : ∃ q qs, ps = q :: qs := by
      rw [pyds] at hp
      split at hp
      · cases hp; exact ⟨_, _, rfl⟩
      · cases hp
    obtain ⟨q, qs, rfl⟩ := this
    have e : pyd (.tup (x :: xs)) = some (.tuple (q :: qs)) := by rw [pyd, hp]; rfl
    have e2 : pyd (.tup []) = some (.tuple []) := rfl
    have s2 : SeqAt.shaped (.tuple []) = true := by decide +kernel
    unfold eqD
    rw [e, e2]
    simp only [hs, s2, Bool.and_self, if_true]
    simp [PyData.eqv, PyData.eqvAll]
theorem atI_last {α : Type} (xs : List α) : atI xs (-1) = xs.getLast? := by
  unfold atI ixN
  cases xs with
  | nil => rfl
  | cons x xs =>
    have h1 : ¬ (0 : Int) ≤ -1 := by omega
    have h2 : -((x :: xs).length : Int) ≤ -1 := by simp only [List.length_cons]; omega
    have h3 : (-1 + ((x :: xs).length : Int)).toNat = (x :: xs).length - 1 := by simp only [List.length_cons]; omega
    rw [if_neg h1, if_pos h2, h3, List.getLast?_eq_getElem?]
    rfl
theorem are_below_of {xs : List D} {y : D} {ps : List PyData} (hp : pyds xs = some ps) (hs : SeqAt.shaped (.tuple ps) = true) (hy : isClo y = false) (h : ∀ x, xs.getLast? = some x → ∀ μ, dLt μ x y = some (.bl true)) (μ : Sto) : m_are_below [.tup xs, y] μ = .ok (.bl true) μ := by
  by_cases hx : xs = []
  · subst hx
    have e2 : pyd (.tup []) = some (.tuple []) := rfl
    have s2 : SeqAt.shaped (.tuple []) = true := by decide +kernel
    have e : eqD (.tup []) (.tup []) = some true := by
      unfold eqD
      rw [e2]
      simp [s2, PyData.eqv, PyData.eqvAll]
    have hz : (0 : Nat) ≤ big := Nat.zero_le _
    simp [m_are_below, b_are_below, runF, dEq, e, hz]
  · obtain ⟨x, hl⟩ : ∃ x, xs.getLast? = some x := by
      cases q : xs.getLast? with
      | none => exact absurd (List.getLast?_eq_none_iff.mp q) hx
      | some x => exact ⟨x, rfl⟩
    have hz : (0 : Nat) ≤ big := Nat.zero_le _
    simp [m_are_below, b_are_below, runF, hy, dEq, eq_nil_tup xs hx hp hs, dNeg, dIx, atI_last, hl, h x hl, hz]
def pairD (p : Str × Str) : D := .tup [.str p.1, .str p.2]
def pairP (p : Str × Str) : PyData := .tuple [.str p.1, .str p.2]
theorem pyds_pairs : ∀ l : List (Str × Str), pyds (l.map pairD) = some (l.map pairP)
  | [] => rfl
  | p :: l => by rw [List.map_cons, pyds, pyds_pairs l]; rfl
theorem canLay_pairs : ∀ {l : List (Str × Str)}, (∀ p ∈ l, okS p.1 ∧ okS p.2) → PyData.canLayAll0 (l.map pairP) = true
  | [], _ => by simp [PyData.canLayAll0]
  | p :: l, h => by
    have h1 : PyData.strOk p.1 = true := (h p (by simp)).1
    have h2 : PyData.strOk p.2 = true := (h p (by simp)).2
    simp only [List.map_cons, PyData.canLayAll0, pairP, PyData.canLay0, h1, h2, canLay_pairs (l := l) fun y hy => h y (by simp [hy]), Bool.and_self]
theorem depth_pairs : ∀ (l : List (Str × Str)), PyData.depthAll (l.map pairP) ≤ 1
  | [] => by simp [PyData.depthAll]
  | p :: l => by
    have := depth_pairs l
    simp only [List.map_cons, PyData.depthAll]
    exact Nat.max_le.mpr ⟨by simp [pairP, PyData.depth, PyData.depthAll], this⟩
theorem shaped_pairs {l : List (Str × Str)} (h : ∀ p ∈ l, okS p.1 ∧ okS p.2) : SeqAt.shaped (.tuple (l.map pairP)) = true := by
  have h3 : PyData.depthAll (l.map pairP) + 1 ≤ 64 := Nat.le_trans (Nat.succ_le_succ (depth_pairs l)) (by decide)
  unfold SeqAt.shaped
  rw [PyData.canLay0, PyData.depth, canLay_pairs h, Bool.true_and]
  exact decide_eq_true h3
theorem shaped_pair {p : Str × Str} (h : okS p.1 ∧ okS p.2) : SeqAt.shaped (pairP p) = true := by
  have h1 : PyData.strOk p.1 = true := h.1
  have h2 : PyData.strOk p.2 = true := h.2
  simp [SeqAt.shaped, pairP, PyData.canLay0, PyData.canLayAll0, PyData.depth, PyData.depthAll, h1, h2]
theorem any_pairs (l : List (Str × Str)) (p : Str × Str) : ((l.map pairP).any fun z => PyData.eqv z (pairP p)) = decide (p ∈ l) := by
  induction l with
  | nil => simp
  | cons q l ih =>
    rw [List.map_cons, List.any_cons, ih]
    have e : PyData.eqv (pairP q) (pairP p) = decide (q = p) := by
      obtain ⟨a, b⟩ := q
      obtain ⟨c, d⟩ := p
      simp only [pairP, PyData.eqv, PyData.eqvAll, beqS_dec, Prod.mk.injEq, Bool.and_true]
      by_cases h1 : a = c <;> by_cases h2 : b = d <;> simp [h1, h2]
    rw [e]
    by_cases h : q = p
    · simp [h]
    · have h2 : ¬ p = q := fun z => h z.symm
      simp [h, h2]
theorem inD_pairs {μ : Sto} {p : Str × Str} {l : List (Str × Str)} (h1 : okS p.1 ∧ okS p.2) (h : ∀ p ∈ l, okS p.1 ∧ okS p.2) : inD μ (pairD p) (.tup (l.map pairD)) = some (decide (p ∈ l)) := by
  have e : pyd (pairD p) = some (pairP p) := rfl
  show (match pyd (pairD p), pyds (l.map pairD) with
    | some p, some ps => if (SeqAt.shaped p && SeqAt.shaped (.tuple ps)) = true then some (ps.any fun z => PyData.eqv z p) else none
    | _, _ => none) = _
  rw [e, pyds_pairs]
  simp only [shaped_pair h1, shaped_pairs h, Bool.and_self, if_true, any_pairs]
theorem cut_take {α : Type} (xs : List α) (i : Nat) : cut xs none (some (i : Int)) = xs.take i := by
  unfold cut HT.sIx
  simp only [Int.not_lt.mpr (Int.natCast_nonneg i), if_false, Int.toNat_natCast, List.drop_zero, Nat.sub_zero]
  by_cases h : i ≤ xs.length
  · rw [Nat.min_eq_left h]
  · rw [Nat.min_eq_right (by omega), List.take_length, List.take_of_length_le (by omega)]
theorem wrong_in_ok {T : CT} {ds : List D} {least : Int} {most : D} {j : Nat} {cs : List D} {μ : Sto} (hl : least ≤ ds.length) (hm : ∀ i : Nat, i < ds.length → eqD (.int i) most = some false) (hcl : isClo most = false) (hds : ∀ d ∈ ds, isClo d = false)
    (hT : ∀ i d, ds[i]? = some d → T j cs [.tup (ds.take i), d] μ = .ok (.bl true) μ) : m_wrong_in T [.tup ds, .int least, most, .clo j cs] μ = .ok (.lst []) μ := by
  have hlt : ¬ ((ds.length : Int) < least) := by omega
  have hz : (0 : Nat) ≤ big := Nat.zero_le _
  obtain ⟨ρ', μ', e, he⟩ := loop_inv (t := tTup 2 (tCons (tName 4) (tCons (tName 5) tNil))) (b := mIf (mOr (mB (m2 dEq (mVal 4) (mVal 2))) (mNot (mB (mClo 3 T (mCons (mSl (mVal 0) mNo (mPart (mVal 4))) (mCons (mVal 5) mNil)))))) (mRet (mLst (mCons (mVal 4) mNil))) mSkip)
    (P := fun r ρ μ1 => μ1 = μ ∧ ∃ i x y, r = enumD i (ds.drop i) ∧ ρ = [Sl.val (.tup ds), .val (.int least), .val most, .val (.clo j cs), x, y])
    (ds := enumD 0 ds) (ρ := [Sl.val (.tup ds), .val (.int least), .val most, .val (.clo j cs), .un, .un]) (μ := μ) ⟨rfl, 0, _, _, rfl, rfl⟩ (by
      rintro d r ρ μ1 ⟨rfl, i, x, y, h1, rfl⟩
      have hi : i < ds.length := by
        by_cases hi : i < ds.length
        · exact hi
        · rw [List.drop_of_length_le (by omega), enumD] at h1
          cases h1
      have hdrop : ds.drop i = ds[i] :: ds.drop (i + 1) := List.drop_eq_getElem_cons hi
      rw [hdrop, enumD] at h1
      injection h1 with h1 h2
      subst h1 h2
      have hd := hT i ds[i] (List.getElem?_eq_getElem hi)
      have hc := hds ds[i] (List.getElem_mem hi)
      exact ⟨_, [Sl.val (.tup ds), .val (.int least), .val most, .val (.clo j cs), .val (.int (i : Nat)), .val ds[i]], μ1, rfl, by simp [hcl, dEq, hm i hi, dSl, cut_take, hc, hd], rfl, i + 1, _, _, rfl, rfl⟩)
  obtain ⟨rfl, i, x, y, _, rfl⟩ := he
  simp [m_wrong_in, b_wrong_in, runF, hcl, dIsi, tyD, isiB, dLen, dLt, hlt, seqD, e, hz]
/-! checks -/
/-- strictly rising, each with the one ahead -/
def rise {α : Type} (lt : α → α → Bool) : List α → Prop
  | [] => True
  | [_] => True
  | a :: b :: r => lt a b = true ∧ rise lt (b :: r)
theorem rise_take {α : Type} {lt : α → α → Bool} : ∀ {l : List α} {i : Nat} {y x : α}, rise lt l → l[i]? = some y → (l.take i).getLast? = some x → lt x y = true
  | [], i, y, x, _, h, _ => by simp at h
  | a :: l, 0, y, x, _, _, h2 => by simp at h2
  | a :: l, i + 1, y, x, hr, h1, h2 => by
    cases l with
    | nil => simp at h1
    | cons b l =>
      have hr2 : lt a b = true ∧ rise lt (b :: l) := hr
      cases i with
      | zero =>
        simp at h1 h2
        subst h1 h2
        exact hr2.1
      | succ i =>
        refine rise_take (l := b :: l) (i := i + 1) hr2.2 (by simpa using h1) ?_
        simpa using h2
theorem T_0 (cs ds : List D) (μ : Sto) : T 0 cs ds μ = runL 2 3 (bl_0 (Tn 1)) cs ds μ := rfl
theorem T_1 (cs ds : List D) (μ : Sto) : T 1 cs ds μ = runL 2 2 bl_1 cs ds μ := rfl
theorem T_3 (cs ds : List D) (μ : Sto) : T 3 cs ds μ = runL 2 4 bl_3 cs ds μ := rfl
theorem Tn_2 (cs ds : List D) (μ : Sto) : Tn 1 2 cs ds μ = runL 1 1 bl_2 cs ds μ := rfl
theorem wrong_people {l : List Str} (hn : ∀ s ∈ l, Nm s) (h1 : 1 ≤ l.length) (h8 : l.length ≤ 8) (hr : rise ltS l) (μ : Sto) : m_wrong_in_people [.tup (l.map .str)] μ = .ok (.lst []) μ := by
  have hw : m_wrong_in T [.tup (l.map .str), .int 1, .int 8, .clo 1 []] μ = .ok (.lst []) μ := by
    refine wrong_in_ok (by rw [List.length_map]; omega) (fun i hi => ?_) rfl (fun d hd => ?_) fun i d hd => ?_
    · rw [List.length_map] at hi
      have : ¬ ((i : Int) = 8) := by omega
      simp [this]
    · obtain ⟨s, _, rfl⟩ := List.mem_map.mp hd
      rfl
    · rw [List.getElem?_map] at hd
      cases hs : l[i]? with
      | none => rw [hs] at hd; cases hd
      | some s =>
        rw [hs] at hd
        cases hd
        have hN := hn s (List.mem_of_getElem? hs)
        have hsub : ∀ x ∈ l.take i, okS x := fun x hx => (hn x (List.mem_of_mem_take hx)).ok
        have hb : ∀ μ, m_are_below [.tup ((l.take i).map .str), .str s] μ = .ok (.bl true) μ := are_below_of (pyds_strs _) (shaped_tupS hsub) rfl fun x hx μ => by
          rw [List.getLast?_map] at hx
          cases hg : (l.take i).getLast? with
          | none => rw [hg] at hx; cases hx
          | some z =>
            rw [hg] at hx
            cases hx
            simp [dLt, rise_take hr hs hg]
        have hb2 : ∀ μ, m_are_below [.tup ((l.map D.str).take i), .str s] μ = .ok (.bl true) μ := fun μ => by rw [← List.map_take]; exact hb μ
        rw [T_1]
        simp [runL, bl_1, is_name_nm hN, hb2]
  simp [m_wrong_in_people, b_wrong_in_people, runF, c_MOST_PEOPLE, hw]
theorem check_people_ok {l : List Str} (hn : ∀ s ∈ l, Nm s) (h1 : 1 ≤ l.length) (h8 : l.length ≤ 8) (hr : rise ltS l) (μ : Sto) : m_check_people [.tup (l.map .str)] μ = .ok .non μ := by
  simp [m_check_people, b_check_people, runF, wrong_people hn h1 h8 hr]
theorem wrong_counts {l : List Str} {cs : List Int} (hl : cs.length = l.length) (hc : ∀ c ∈ cs, 0 ≤ c ∧ c ≤ 7) (μ : Sto) : m_wrong_in_counts [.tup (l.map .str), .tup (cs.map .int)] μ = .ok (.lst []) μ := by
  have hw : m_wrong_in T [.tup (cs.map .int), .int (l.length : Nat), .int (l.length : Nat), .clo 0 [.clo 2 []]] μ = .ok (.lst []) μ := by
    refine wrong_in_ok (by rw [List.length_map]; omega) (fun i hi => ?_) rfl (fun d hd => ?_) fun i d hd => ?_
    · rw [List.length_map] at hi
      have : ¬ ((i : Int) = (l.length : Nat)) := by omega
      simp only [eqD_int, this, decide_false]
    · obtain ⟨s, _, rfl⟩ := List.mem_map.mp hd
      rfl
    · rw [List.getElem?_map] at hd
      cases hs : cs[i]? with
      | none => rw [hs] at hd; cases hd
      | some c =>
        rw [hs] at hd
        cases hd
        obtain ⟨h1, h2⟩ := hc c (List.mem_of_getElem? hs)
        have hi : ∀ μ, Tn 1 2 [] [.int c] μ = .ok (.bl true) μ := fun μ => by
          rw [Tn_2]
          simp [runL, bl_2, c_MOST_COUNT, is_up_to_int, h1, h2]
        rw [T_0]
        simp [runL, bl_0, hi]
  have ht : ((cs.length : Int) = (l.length : Nat)) := by omega
  simp [m_wrong_in_counts, b_wrong_in_counts, runF, dLen, m_wrong_in_all, b_wrong_in_all, is_tuple_of_tup, ht, hw]
theorem check_counts_ok {l : List Str} {cs : List Int} (hn : ∀ s ∈ l, Nm s) (h1 : 1 ≤ l.length) (h8 : l.length ≤ 8) (hr : rise ltS l) (hl : cs.length = l.length) (hc : ∀ c ∈ cs, 0 ≤ c ∧ c ≤ 7) (μ : Sto) : m_check_counts [.tup (l.map .str), .tup (cs.map .int)] μ = .ok .non μ := by
  simp [m_check_counts, b_check_counts, runF, check_people_ok hn h1 h8 hr, wrong_counts hl hc]
/-! meetings -/
def ltP (p q : Str × Str) : Bool := lexL [p.1, p.2] [q.1, q.2]
theorem is_one_of_mem {l : List Str} {s : Str} (hs : okS s) (hl : ∀ x ∈ l, okS x) (hm : s ∈ l) (μ : Sto) : m_is_one_of [.str s, .tup (l.map .str)] μ = .ok (.bl true) μ := by
  simp [m_is_one_of, b_is_one_of, runF, dIsi, tyD, isiB, dIn, inD_tupS hs hl, hm]
theorem atI0 {α : Type} (a : α) (l : List α) : atI (a :: l) 0 = some a := by
  unfold atI ixN
  rw [if_pos (Int.le_refl 0), if_pos (by simp only [List.length_cons]; omega)]
  rfl
theorem atI1 {α : Type} (a b : α) (l : List α) : atI (a :: b :: l) 1 = some b := by
  unfold atI ixN
  rw [if_pos (by decide), if_pos (by simp only [List.length_cons]; omega)]
  rfl
theorem atI2 {α : Type} (a b c : α) (l : List α) : atI (a :: b :: c :: l) 2 = some c := by
  unfold atI ixN
  rw [if_pos (by decide), if_pos (by simp only [List.length_cons]; omega)]
  rfl
theorem is_meeting_ok {l : List Str} {p : Str × Str} (hl : ∀ x ∈ l, okS x) (h1 : p.1 ∈ l) (h2 : p.2 ∈ l) (hp : ltS p.1 p.2 = true) (μ : Sto) : m_is_meeting [.tup (l.map .str), pairD p] μ = .ok (.bl true) μ := by
  simp [m_is_meeting, b_is_meeting, runF, pairD, is_pair_tup, dIx, atI0, atI1, is_one_of_mem (hl _ h1) hl h1, is_one_of_mem (hl _ h2) hl h2, dLt, hp]
structure Prs (l : List Str) (ps : List (Str × Str)) : Prop where
  inL : ∀ p ∈ ps, p.1 ∈ l ∧ p.2 ∈ l ∧ ltS p.1 p.2 = true
  up : rise ltP ps
theorem wrong_meetings {l : List Str} {ps qs : List (Str × Str)} (hl : ∀ x ∈ l, okS x) (h : Prs l ps) (hq : ∀ q ∈ qs, okS q.1 ∧ okS q.2) (hd : ∀ p ∈ ps, p ∉ qs) (μ : Sto) : m_wrong_in_meetings [.tup (l.map .str), .tup (ps.map pairD), .tup (qs.map pairD)] μ = .ok (.lst []) μ := by
  have hw : m_wrong_in T [.tup (ps.map pairD), .int 0, .non, .clo 3 [.tup (l.map .str), .tup (qs.map pairD)]] μ = .ok (.lst []) μ := by
    refine wrong_in_ok (by omega) (fun i hi => ?_) rfl (fun d hd => ?_) fun i d hd => ?_
    · simp
    · obtain ⟨s, _, rfl⟩ := List.mem_map.mp hd
      rfl
    · rw [List.getElem?_map] at hd
      cases hs : ps[i]? with
      | none => rw [hs] at hd; cases hd
      | some p =>
        rw [hs] at hd
        cases hd
        have hm := List.mem_of_getElem? hs
        obtain ⟨i1, i2, i3⟩ := h.inL p hm
        have hsub : ∀ x ∈ ps.take i, okS x.1 ∧ okS x.2 := fun x hx => by
          obtain ⟨j1, j2, _⟩ := h.inL x (List.mem_of_mem_take hx)
          exact ⟨hl _ j1, hl _ j2⟩
        have hb : ∀ μ, m_are_below [.tup ((ps.map pairD).take i), pairD p] μ = .ok (.bl true) μ := fun μ => by
          rw [← List.map_take]
          refine are_below_of (pyds_pairs _) (shaped_pairs hsub) rfl (fun x hx μ => ?_) μ
          rw [List.getLast?_map] at hx
          cases hg : (ps.take i).getLast? with
          | none => rw [hg] at hx; cases hx
          | some z =>
            rw [hg] at hx
            cases hx
            have := rise_take h.up hs hg
            unfold ltP at this
            simp [pairD, dLt, strsD, this]
        have hn := inD_pairs (μ := μ) ⟨hl _ i1, hl _ i2⟩ hq
        have hc : isClo (pairD p) = false := rfl
        rw [T_3]
        simp [runL, bl_3, hc, is_meeting_ok hl i1 i2 i3, hb, dNotIn, hn, hd p hm]
  simp [m_wrong_in_meetings, b_wrong_in_meetings, runF, hw]
theorem check_yes_no_ok {l : List Str} {ys ns : List (Str × Str)} (hl : ∀ x ∈ l, okS x) (h1 : Prs l ys) (h2 : Prs l ns) (hd : ∀ p ∈ ns, p ∉ ys) (μ : Sto) : m_check_yes_no [.tup (l.map .str), .tup (ys.map pairD), .tup (ns.map pairD)] μ = .ok .non μ := by
  have e1 := wrong_meetings (qs := []) hl h1 (fun _ h => by simp at h) (fun _ _ => by simp) μ
  have e2 := wrong_meetings (qs := ys) hl h2 (fun q hq => by obtain ⟨j1, j2, _⟩ := h1.inL q hq; exact ⟨hl _ j1, hl _ j2⟩) hd μ
  have hz : (0 : Nat) ≤ big := Nat.zero_le _
  simp only [List.map_nil] at e1
  simp [m_check_yes_no, b_check_yes_no, runF, e1, e2, hz]
structure Told (l : List Str) (cs : List Int) (ys ns : List (Str × Str)) : Prop where
  nm : ∀ s ∈ l, Nm s
  one : 1 ≤ l.length
  most : l.length ≤ 8
  up : rise ltS l
  len : cs.length = l.length
  cnt : ∀ c ∈ cs, 0 ≤ c ∧ c ≤ 7
  yes : Prs l ys
  no : Prs l ns
  apart : ∀ p ∈ ns, p ∉ ys
theorem check_told_ok {l : List Str} {cs : List Int} {ys ns : List (Str × Str)} (h : Told l cs ys ns) (μ : Sto) : m_check_told [.tup (l.map .str), .tup (cs.map .int), .tup (ys.map pairD), .tup (ns.map pairD)] μ = .ok .non μ := by
  simp [m_check_told, b_check_told, runF, check_counts_ok h.nm h.one h.most h.up h.len h.cnt, check_yes_no_ok (fun x hx => (h.nm x hx).ok) h.yes h.no h.apart]
/-! rows -/
def row3 (w n c : Str) : Str := ⟨(w.cps.toList ++ 32 :: (n.cps.toList ++ 32 :: c.cps.toList)).toArray⟩
theorem str_ext {a b : Str} (h : a.cps.toList = b.cps.toList) : a = b := by
  cases a; cases b
  exact congrArg Str.mk (Array.ext' h)
theorem app_list (a b : Str) : (a ++ b).cps.toList = a.cps.toList ++ b.cps.toList := by
  show (a.cps ++ b.cps).toList = _
  simp
theorem app_len (a b : Str) : (a ++ b).length = a.length + b.length := by
  show (a.cps ++ b.cps).size = _
  simp [Str.length]
theorem sp_list : (PySem.Str.ofString " ").cps.toList = [32] := by decide +kernel
theorem row_f (w n c : Str) : Str.empty ++ w ++ PySem.Str.ofString " " ++ n ++ PySem.Str.ofString " " ++ c = row3 w n c := by
  apply str_ext
  simp only [app_list, sp_list, row3]
  simp [Str.empty]
theorem row_p (w w2 n c : Str) (h : w2.cps.toList = w.cps.toList ++ [32]) : w2 ++ n ++ PySem.Str.ofString " " ++ c = row3 w n c := by
  apply str_ext
  simp only [app_list, sp_list, row3, h]
  simp
theorem joined_row {ρ : Env'} {μ : Sto} {a b c : Ex D} {x y z : Str} (ha : a ρ μ = .ok (.str x) μ) (hb : b ρ μ = .ok (.str y) μ) (hc : c ρ μ = .ok (.str z) μ) (h1 : x.length ≤ 100) (h2 : y.length ≤ 100) (h3 : z.length ≤ 100) : mJoined [a, mC (.str " "), b, mC (.str " "), c] ρ μ = .ok (.str (row3 x y z)) μ := by
  have e : (PySem.Str.ofString " ").length = 1 := by decide +kernel
  have e0 : Str.empty.length = 0 := rfl
  have l1 : (Str.empty ++ x).length ≤ big := by rw [app_len, e0]; unfold big; omega
  have l2 : (Str.empty ++ x ++ PySem.Str.ofString " ").length ≤ big := by simp only [app_len, e0, e]; unfold big; omega
  have l3 : (Str.empty ++ x ++ PySem.Str.ofString " " ++ y).length ≤ big := by simp only [app_len, e0, e]; unfold big; omega
  have l4 : (Str.empty ++ x ++ PySem.Str.ofString " " ++ y ++ PySem.Str.ofString " ").length ≤ big := by simp only [app_len, e0, e]; unfold big; omega
  have l5 : (Str.empty ++ x ++ PySem.Str.ofString " " ++ y ++ PySem.Str.ofString " " ++ z).length ≤ big := by simp only [app_len, e0, e]; unfold big; omega
  rw [← row_f]
  simp [mJoined, mJs, ha, hb, hc, l1, l2, l3, l4, l5]
def cntS (c : Int) : Str := PySem.Str.ofString (toString c)
theorem cnt_cases {c : Int} (h : 0 ≤ c ∧ c ≤ 7) : c = 0 ∨ c = 1 ∨ c = 2 ∨ c = 3 ∨ c = 4 ∨ c = 5 ∨ c = 6 ∨ c = 7 := by omega
theorem cntS_len {c : Int} (h : 0 ≤ c ∧ c ≤ 7) : (cntS c).length = 1 := by
  rcases cnt_cases h with rfl | rfl | rfl | rfl | rfl | rfl | rfl | rfl <;> decide +kernel
theorem cnt_log {c : Int} (h : 0 ≤ c ∧ c ≤ 7) : c.natAbs.log2 < 1920 := by
  rcases cnt_cases h with rfl | rfl | rfl | rfl | rfl | rfl | rfl | rfl <;> decide +kernel
def pS : Str := "person"
def mS : Str := "met"
def nS : Str := "not"
def rowsOf (l : List Str) (cs : List Int) (ys ns : List (Str × Str)) : List Str := (l.zip cs).map (fun p => row3 pS p.1 (cntS p.2)) ++ (ys.map (fun p => row3 mS p.1 p.2) ++ ns.map fun p => row3 nS p.1 p.2)
theorem zipD_lc : ∀ (l : List Str) (cs : List Int), zipD (l.map .str) (cs.map .int) = (l.zip cs).map fun p => D.tup [.str p.1, .int p.2]
  | [], _ => by simp [zipD]
  | _ :: _, [] => by simp [zipD]
  | a :: l, c :: cs => by
    have := zipD_lc l cs
    simp only [zipD] at this ⊢
    simp [this]
theorem fmt_str {ρ : Env'} {μ : Sto} {a : Ex D} {x : Str} (h : a ρ μ = .ok (.str x) μ) (hl : x.length ≤ 100) : m1 dFmt a ρ μ = .ok (.str x) μ := by
  have hb : x.length ≤ big := small_big (by omega)
  simp [h, dFmt, fmtD, hb]
theorem fmt_int {ρ : Env'} {μ : Sto} {a : Ex D} {c : Int} (h : a ρ μ = .ok (.int c) μ) (hc : 0 ≤ c ∧ c ≤ 7) : m1 dFmt a ρ μ = .ok (.str (cntS c)) μ := by
  simp [h, dFmt, fmtD, cnt_log hc, cntS]
theorem pS_len : pS.length = 6 := by decide +kernel
theorem mS_len : mS.length = 3 := by decide +kernel
theorem nS_len : nS.length = 3 := by decide +kernel
theorem prs_nm {l : List Str} {ps : List (Str × Str)} (hn : ∀ s ∈ l, Nm s) (h : Prs l ps) : ∀ p ∈ ps, Nm p.1 ∧ Nm p.2 := fun p hp => by
  obtain ⟨j1, j2, _⟩ := h.inL p hp
  exact ⟨hn _ j1, hn _ j2⟩
theorem rows_by_ok {l : List Str} {cs : List Int} {ys ns : List (Str × Str)} (h : Told l cs ys ns) (hy : ys.length ≤ 1000) (hN : ns.length ≤ 1000) (μ : Sto) : m_rows_by [.tup (l.map .str), .tup (cs.map .int), .tup (ys.map pairD), .tup (ns.map pairD)] μ = .ok (.tup ((rowsOf l cs ys ns).map .str)) μ := by
  have c1 : ∀ ρ : Env', ρ.length = 9 → compL (tTup 2 (tCons (tName 5) (tCons (tName 6) tNil))) mTrue (mJoined [m1 dFmt (mC c_PERSON), mC (.str " "), m1 dFmt (mVal 5), mC (.str " "), m1 dFmt (mVal 6)]) ρ (zipD (l.map .str) (cs.map .int)) μ = .ok (((l.zip cs).map (fun p => row3 pS p.1 (cntS p.2))).map .str) μ := fun ρ hρ => by
    rw [zipD_lc]
    have := compL_map (t := tTup 2 (tCons (tName 5) (tCons (tName 6) tNil))) (c := mTrue) (m := mJoined [m1 dFmt (mC c_PERSON), mC (.str " "), m1 dFmt (mVal 5), mC (.str " "), m1 dFmt (mVal 6)]) (ρ := ρ) (μ := μ)
      (f := fun d => match d with | .tup [.str a, .int c] => .str (row3 pS a (cntS c)) | _ => .non) (ds := (l.zip cs).map fun p => D.tup [.str p.1, .int p.2]) (fun d hd => by
        obtain ⟨⟨a, c⟩, hp, rfl⟩ := List.mem_map.mp hd
        obtain ⟨ha, hc⟩ := List.of_mem_zip hp
        have na := h.nm a ha
        have nc := h.cnt c hc
        refine ⟨_, rfl, rfl, ?_⟩
        refine joined_row (fmt_str rfl (by rw [pS_len]; omega)) (fmt_str (x := a) ?_ (by have := na.most; omega)) (fmt_int (c := c) ?_ nc) (by rw [pS_len]; omega) (by have := na.most; show a.length ≤ 100; omega) (by rw [cntS_len nc]; omega)
        · simp [hρ]
        · simp [hρ])
    rw [this, List.map_map, List.map_map]
    rfl
  have c2 : ∀ (w : Str) (k : D) (hk : k = .str w) (hw : w.length ≤ 100) (ps : List (Str × Str)) (hp : ∀ p ∈ ps, Nm p.1 ∧ Nm p.2) (ρ : Env'), ρ.length = 9 → compL (tTup 2 (tCons (tName 7) (tCons (tName 8) tNil))) mTrue (mJoined [m1 dFmt (mC k), mC (.str " "), m1 dFmt (mVal 7), mC (.str " "), m1 dFmt (mVal 8)]) ρ (ps.map pairD) μ = .ok ((ps.map (fun p => row3 w p.1 p.2)).map .str) μ := fun w k hk hw ps hp ρ hρ => by
    subst hk
    have := compL_map (t := tTup 2 (tCons (tName 7) (tCons (tName 8) tNil))) (c := mTrue) (m := mJoined [m1 dFmt (mC (.str w)), mC (.str " "), m1 dFmt (mVal 7), mC (.str " "), m1 dFmt (mVal 8)]) (ρ := ρ) (μ := μ)
      (f := fun d => match d with | .tup [.str a, .str c] => .str (row3 w a c) | _ => .non) (ds := ps.map pairD) (fun d hd => by
        obtain ⟨p, hpp, rfl⟩ := List.mem_map.mp hd
        obtain ⟨n1, n2⟩ := hp p hpp
        refine ⟨_, rfl, rfl, ?_⟩
        refine joined_row (fmt_str rfl hw) (fmt_str (x := p.1) ?_ (by have := n1.most; omega)) (fmt_str (x := p.2) ?_ (by have := n2.most; omega)) hw (by have := n1.most; omega) (by have := n2.most; omega)
        · simp [hρ]
        · simp [hρ])
    rw [this, List.map_map, List.map_map]
    rfl
  have z1 : (zipD (l.map .str) (cs.map .int)).length ≤ big := by
    rw [zipD_lc, List.length_map, List.length_zip]
    have := h.most
    exact small_big (by omega)
  have e1 := c1 [Sl.val (.tup (l.map .str)), .val (.tup (cs.map .int)), .val (.tup (ys.map pairD)), .val (.tup (ns.map pairD)), .un, .un, .un, .un, .un] rfl
  have hm1 := prs_nm h.nm h.yes
  have hm2 := prs_nm h.nm h.no
  have e2 := fun r => c2 mS c_MET rfl (by rw [mS_len]; omega) ys hm1 [Sl.val (.tup (l.map .str)), .val (.tup (cs.map .int)), .val (.tup (ys.map pairD)), .val (.tup (ns.map pairD)), .val r, .un, .un, .un, .un] rfl
  have e3 := fun r => c2 nS c_NOT rfl (by rw [nS_len]; omega) ns hm2 [Sl.val (.tup (l.map .str)), .val (.tup (cs.map .int)), .val (.tup (ys.map pairD)), .val (.tup (ns.map pairD)), .val r, .un, .un, .un, .un] rfl
  have b1 : ys.length ≤ big := small_big hy
  have b2 : ns.length ≤ big := small_big hN
  have b3 : (l.zip cs).length + ys.length ≤ big := by rw [List.length_zip]; have := h.most; unfold big; omega
  have b4 : (l.zip cs).length + ys.length + ns.length ≤ big := by rw [List.length_zip]; have := h.most; unfold big; omega
  simp only [List.length_zip] at b3 b4
  simp [m_rows_by, b_rows_by, runF, z1, e1, e2, e3, b1, b2, dAdd, b3, b4, dTuple, rowsOf]
theorem told_rows_ok {l : List Str} {cs : List Int} {ys ns : List (Str × Str)} (h : Told l cs ys ns) (hy : ys.length ≤ 1000) (hN : ns.length ≤ 1000) (μ : Sto) : m_told_rows [.tup (l.map .str), .tup (cs.map .int), .tup (ys.map pairD), .tup (ns.map pairD)] μ = .ok (.tup ((rowsOf l cs ys ns).map .str)) μ := by
  simp [m_told_rows, b_told_rows, runF, check_told_ok h, rows_by_ok h hy hN]
/-! rows read -/
theorem split_row {w n c : Str} (h1 : 32 ∉ w.cps.toList) (h2 : 32 ∉ n.cps.toList) (h3 : 32 ∉ c.cps.toList) : Txt.split (row3 w n c) (PySem.Str.ofString " ") = [w, n, c] := by
  have e : (PySem.Str.ofString " ") = SX.S [32] := by decide +kernel
  have e2 : row3 w n c = SX.S (TL.joinL [32] [w.cps.toList, n.cps.toList, c.cps.toList]) := by
    simp [row3, TL.joinL, SX.S]
  rw [e, e2, SX.split_S (by simp) (by decide), SX.spl_join (by simp) (by
    intro p hp
    simp only [List.mem_cons, List.not_mem_nil, or_false] at hp
    rcases hp with rfl | rfl | rfl
    · exact h1
    · exact h2
    · exact h3)]
  simp [SX.S]
theorem lets_nosp {s : Str} (h : lets s) : 32 ∉ s.cps.toList := fun z => by have := h 32 z; omega
theorem cntS_cps {c : Int} (h : 0 ≤ c ∧ c ≤ 7) : (cntS c).cps.toList = [48 + c.toNat] := by
  rcases cnt_cases h with rfl | rfl | rfl | rfl | rfl | rfl | rfl | rfl <;> decide +kernel
theorem cntS_nosp {c : Int} (h : 0 ≤ c ∧ c ≤ 7) : 32 ∉ (cntS c).cps.toList := by
  rw [cntS_cps h]
  simp only [List.mem_cons, List.not_mem_nil, or_false]
  omega
theorem fig_ok (μ : Sto) : ∀ c : Int, 0 ≤ c ∧ c ≤ 7 → m_is_figures [.str (cntS c)] μ = .ok (.bl true) μ := fun c h => by
  have hok : okS (cntS c) := by
    show PyData.strOk _ = true
    rcases cnt_cases h with rfl | rfl | rfl | rfl | rfl | rfl | rfl | rfl <;> decide +kernel
  have ne : ¬ cntS c = PySem.Str.ofString "" := by
    intro z
    have := cntS_len h
    rw [z] at this
    exact absurd this (by decide +kernel)
  have zok : okS (PySem.Str.ofString "0") := by show PyData.strOk _ = true; decide +kernel
  have hf : 48 + c.toNat ∈ (PySem.Str.ofString "0123456789").cps.toList := by
    rcases cnt_cases h with rfl | rfl | rfl | rfl | rfl | rfl | rfl | rfl <;> decide +kernel
  have hs : signsD (cntS c) = [.str ⟨#[48 + c.toNat]⟩] := by unfold signsD; rw [cntS_cps h]; rfl
  have hz1 : (1 : Nat) ≤ big := by decide
  have hl := cntS_len h
  have hcomp : ∀ ρ : Env', ρ.length = 2 → compL (tName 1) mTrue (m2 dIn (mVal 1) (mC c_FIGURES)) ρ [.str ⟨#[48 + c.toNat]⟩] μ = .ok [.bl true] μ := fun ρ hρ => by
    rw [z_compL]
    simp [hρ, dIn, c_FIGURES, inD_sign, hf]
  have e1 := hcomp [Sl.val (.str (cntS c)), .un] rfl
  have l400 : ¬ ((400 : Int) < 1) := by decide
  have e0 : eqD (.str (cntS c)) (.str (PySem.Str.ofString "")) = some false := by rw [eqD_str hok empty_ok]; simp [ne]
  by_cases hc : cntS c = PySem.Str.ofString "0"
  · have he : eqD (.str (cntS c)) (.str (PySem.Str.ofString "0")) = some true := by rw [eqD_str hok zok]; simp [hc]
    simp [m_is_figures, b_is_figures, runF, dEq, e0, hs, hz1, e1, dAll, blsD, dLen, hl, dGt, c_MOST_FIGURES, he]
  · have hix : dIx μ (.str (cntS c)) (.int 0) = some (.str ⟨#[48 + c.toNat]⟩) := by
      simp [dIx, hl, hz1, cntS_cps h, atI0]
    have ok1 : okS (⟨#[48 + c.toNat]⟩ : Str) := by
      show PyData.strOk _ = true
      rcases cnt_cases h with rfl | rfl | rfl | rfl | rfl | rfl | rfl | rfl <;> decide +kernel
    have n1 : ¬ (⟨#[48 + c.toNat]⟩ : Str) = PySem.Str.ofString "0" := fun z => hc (by
      rw [← z]
      exact str_ext (cntS_cps h))
    have he : eqD (.str (cntS c)) (.str (PySem.Str.ofString "0")) = some false := by rw [eqD_str hok zok]; simp [hc]
    simp [m_is_figures, b_is_figures, runF, dEq, e0, hs, hz1, e1, dAll, blsD, dLen, hl, dGt, c_MOST_FIGURES, he, hix, dNe, eqD_str ok1 zok, n1]
theorem pS_lets : lets pS := by
  have : pS.cps.toList = [112, 101, 114, 115, 111, 110] := by decide +kernel
  intro c hc
  rw [this] at hc
  simp only [List.mem_cons, List.not_mem_nil, or_false] at hc
  omega
theorem mS_lets : lets mS := by
  have : mS.cps.toList = [109, 101, 116] := by decide +kernel
  intro c hc
  rw [this] at hc
  simp only [List.mem_cons, List.not_mem_nil, or_false] at hc
  omega
theorem nS_lets : lets nS := by
  have : nS.cps.toList = [110, 111, 116] := by decide +kernel
  intro c hc
  rw [this] at hc
  simp only [List.mem_cons, List.not_mem_nil, or_false] at hc
  omega
theorem kinds_ok : ∀ x ∈ [pS, mS, nS], okS x := by
  intro x hx
  simp only [List.mem_cons, List.not_mem_nil, or_false] at hx
  rcases hx with rfl | rfl | rfl
  · exact lets_ok pS_lets
  · exact lets_ok mS_lets
  · exact lets_ok nS_lets
theorem cnt_okS {c : Int} (h : 0 ≤ c ∧ c ≤ 7) : okS (cntS c) := by
  show PyData.strOk _ = true
  rcases cnt_cases h with rfl | rfl | rfl | rfl | rfl | rfl | rfl | rfl <;> decide +kernel
theorem row_len (w n c : Str) : (row3 w n c).length = w.length + n.length + c.length + 2 := by
  simp [row3, Str.length]
  omega
theorem told_row_of {w n c : Str} (hw : w ∈ [pS, mS, nS]) (hn : Nm n) (hc : 32 ∉ c.cps.toList) (hl : c.length ≤ 100) (μ : Sto)
    (h : (if w = pS then m_is_figures [.str c] μ else m_is_word [.str c] μ) = .ok (.bl true) μ) : m_told_row [.str (row3 w n c)] μ = .ok (.tup [.str w, .str n, .str c]) μ := by
  have hwo := kinds_ok w hw
  have hwl : w.length ≤ 100 := by
    simp only [List.mem_cons, List.not_mem_nil, or_false] at hw
    rcases hw with rfl | rfl | rfl
    · rw [pS_len]; omega
    · rw [mS_len]; omega
    · rw [nS_len]; omega
  have hws : 32 ∉ w.cps.toList := by
    simp only [List.mem_cons, List.not_mem_nil, or_false] at hw
    rcases hw with rfl | rfl | rfl
    · exact lets_nosp pS_lets
    · exact lets_nosp mS_lets
    · exact lets_nosp nS_lets
  have hbig : (row3 w n c).length ≤ big := by rw [row_len]; have := hn.most; exact small_big (by omega)
  have sp1 : ¬ (PySem.Str.ofString " ").length = 0 := by decide +kernel
  have hin : inD μ (.str w) (.tup [.str pS, .str mS, .str nS]) = some true := by
    have := inD_tupS (μ := μ) hwo kinds_ok
    simp only [List.map_cons, List.map_nil] at this
    rw [this]
    simp only [hw, decide_true]
  have e1 : c_PERSON = .str pS := rfl
  have e2 : c_MET = .str mS := rfl
  have e3 : c_NOT = .str nS := rfl
  have h3 : (3 : Nat) ≤ big := by decide
  have hword := is_word_lets hn.lets hn.pos (small_big (by have := hn.most; omega)) μ
  have hpk : okS pS := lets_ok pS_lets
  by_cases hp : w = pS
  · have he : eqD (.str w) (.str pS) = some true := by rw [eqD_str hwo hpk]; simp [hp]
    rw [if_pos hp] at h
    simp [m_told_row, b_told_row, runF, dIsi, tyD, isiB, dSplit, sp1, hbig, split_row hws (lets_nosp hn.lets) hc, dLen, dNe, dIx, atI0, atI1, atI2, dNotIn, e1, e2, e3, h3, hin, hword, dEq, he, h, dTuple]
  · have he : eqD (.str w) (.str pS) = some false := by rw [eqD_str hwo hpk]; simp [hp]
    rw [if_neg hp] at h
    simp [m_told_row, b_told_row, runF, dIsi, tyD, isiB, dSplit, sp1, hbig, split_row hws (lets_nosp hn.lets) hc, dLen, dNe, dIx, atI0, atI1, atI2, dNotIn, e1, e2, e3, h3, hin, hword, dEq, he, h, dTuple]
abbrev Ent := Str × Str × Str
def wordsD (e : Ent) : D := .tup [.str e.1, .str e.2.1, .str e.2.2]
def rowE (e : Ent) : Str := row3 e.1 e.2.1 e.2.2
structure EntOk (e : Ent) : Prop where
  w : e.1 ∈ [pS, mS, nS]
  n : Nm e.2.1
  c : 32 ∉ e.2.2.cps.toList
  cok : okS e.2.2
  l : e.2.2.length ≤ 100
  r : ∀ μ, (if e.1 = pS then m_is_figures [.str e.2.2] μ else m_is_word [.str e.2.2] μ) = .ok (.bl true) μ
theorem told_ent {e : Ent} (h : EntOk e) (μ : Sto) : m_told_row [.str (rowE e)] μ = .ok (wordsD e) μ := told_row_of h.w h.n h.c h.l μ (h.r μ)
def entsOf (l : List Str) (cs : List Int) (ys ns : List (Str × Str)) : List Ent := (l.zip cs).map (fun p => (pS, p.1, cntS p.2)) ++ (ys.map (fun p => (mS, p.1, p.2)) ++ ns.map fun p => (nS, p.1, p.2))
theorem rows_ents (l : List Str) (cs : List Int) (ys ns : List (Str × Str)) : rowsOf l cs ys ns = (entsOf l cs ys ns).map rowE := by
  simp [rowsOf, entsOf, rowE, Function.comp_def]
theorem mS_ne : ¬ mS = pS := by decide +kernel
theorem nS_ne : ¬ nS = pS := by decide +kernel
theorem nS_ne2 : ¬ nS = mS := by decide +kernel
theorem ents_ok {l : List Str} {cs : List Int} {ys ns : List (Str × Str)} (h : Told l cs ys ns) : ∀ e ∈ entsOf l cs ys ns, EntOk e := by
  intro e he
  unfold entsOf at he
  rcases List.mem_append.mp he with he | he
  · obtain ⟨⟨a, c⟩, hp, rfl⟩ := List.mem_map.mp he
    obtain ⟨ha, hc⟩ := List.of_mem_zip hp
    have na := h.nm a ha
    have nc := h.cnt c hc
    exact ⟨by simp, na, cntS_nosp nc, cnt_okS nc, by show (cntS c).length ≤ 100; rw [cntS_len nc]; omega, fun μ => by rw [if_pos rfl]; exact fig_ok μ c nc⟩
  · rcases List.mem_append.mp he with he | he
    · obtain ⟨p, hp, rfl⟩ := List.mem_map.mp he
      obtain ⟨n1, n2⟩ := prs_nm h.nm h.yes p hp
      exact ⟨by simp, n1, lets_nosp n2.lets, n2.ok, by have := n2.most; show p.2.length ≤ 100; omega, fun μ => by rw [if_neg mS_ne]; exact is_word_lets n2.lets n2.pos (small_big (by have := n2.most; omega)) μ⟩
    · obtain ⟨p, hp, rfl⟩ := List.mem_map.mp he
      obtain ⟨n1, n2⟩ := prs_nm h.nm h.no p hp
      exact ⟨by simp, n1, lets_nosp n2.lets, n2.ok, by have := n2.most; show p.2.length ≤ 100; omega, fun μ => by rw [if_neg nS_ne]; exact is_word_lets n2.lets n2.pos (small_big (by have := n2.most; omega)) μ⟩
theorem told_comp {es : List Ent} (h : ∀ e ∈ es, EntOk e) (ρ : Env') (hρ : 5 < ρ.length) (μ : Sto) : compL (tName 5) mTrue (mApp 1 m_told_row (mCons (mVal 5) mNil)) ρ ((es.map rowE).map .str) μ = .ok (es.map wordsD) μ := by
  have hg : ∀ e ∈ es, ∃ ρ1, tName 5 (.str (rowE e)) ρ = some ρ1 ∧ mTrue ρ1 μ = .ok true μ ∧ mApp 1 m_told_row (mCons (mVal 5) mNil) ρ1 μ = .ok (wordsD e) μ := fun e he => ⟨_, rfl, rfl, by simp [hρ, told_ent (h e he)]⟩
  clear h
  induction es with
  | nil => rfl
  | cons e es ih =>
    obtain ⟨ρ1, h1, h2, h3⟩ := hg e (by simp)
    rw [List.map_cons, List.map_cons, z_compL, h1]
    simp only [h2, h3, ih fun e he => hg e (by simp [he]), z_bind_ok, List.map_cons]
def kd (e : Ent) : Int := if e.1 = pS then 0 else if e.1 = mS then 1 else 2
theorem place_ent {e : Ent} (h : EntOk e) (μ : Sto) : m_place_of [wordsD e] μ = .ok (.int (kd e)) μ := by
  have h3 : (3 : Nat) ≤ big := by decide
  have e1 : c_PERSON = .str pS := rfl
  have e2 : c_MET = .str mS := rfl
  have e3 : c_NOT = .str nS := rfl
  have hw := h.w
  have p1 : ¬ pS = mS := fun z => mS_ne z.symm
  have p2 : ¬ pS = nS := fun z => nS_ne z.symm
  have p3 : ¬ mS = nS := fun z => nS_ne2 z.symm
  simp only [List.mem_cons, List.not_mem_nil, or_false] at hw
  unfold kd
  rcases hw with hw | hw | hw
  · simp [m_place_of, b_place_of, runF, wordsD, e1, e2, e3, strsD, h3, dIx, atI0, ixS, hw]
  · simp [m_place_of, b_place_of, runF, wordsD, e1, e2, e3, strsD, h3, dIx, atI0, ixS, hw, p1, mS_ne]
  · simp [m_place_of, b_place_of, runF, wordsD, e1, e2, e3, strsD, h3, dIx, atI0, ixS, hw, p2, p3, nS_ne, nS_ne2]
theorem words_ne {e : Ent} (h : EntOk e) : eqD (wordsD e) (.tup []) = some false := by
  refine eq_nil_tup _ (by simp) (pyds_strs [e.1, e.2.1, e.2.2]) (shaped_tupS fun x hx => ?_)
  simp only [List.mem_cons, List.not_mem_nil, or_false] at hx
  rcases hx with rfl | rfl | rfl
  · exact kinds_ok _ h.w
  · exact h.n.ok
  · exact h.cok
theorem rows_okS {es : List Ent} (h : ∀ e ∈ es, EntOk e) : ∀ x ∈ es.map rowE, okS x := by
  intro x hx
  obtain ⟨e, he, rfl⟩ := List.mem_map.mp hx
  have h1 : PyData.strOk e.1 = true := kinds_ok _ (h e he).w
  have h2 : PyData.strOk e.2.1 = true := (h e he).n.ok
  have h3 : PyData.strOk e.2.2 = true := (h e he).cok
  unfold okS PyData.strOk at *
  simp only [Array.all_eq_true_iff_forall_mem, decide_eq_true_eq] at *
  intro c hc
  have hc : c ∈ (row3 e.1 e.2.1 e.2.2).cps := hc
  simp only [row3, List.mem_toArray, List.mem_append, List.mem_cons, Array.mem_toList_iff] at hc
  rcases hc with hc | rfl | hc | rfl | hc
  · exact h1 c hc
  · decide
  · exact h2 c hc
  · decide
  · exact h3 c hc
theorem wrong_rows_ok {es : List Ent} (h : ∀ e ∈ es, EntOk e) (hne : es ≠ []) (hl : es.length ≤ 5000) (hk : (es.map kd).Pairwise (· ≤ ·)) (μ : Sto) : m_wrong_in_rows [.tup ((es.map rowE).map .str)] μ = .ok (.lst []) μ := by
  have hz : (0 : Nat) ≤ big := Nat.zero_le _
  have hb : es.length ≤ big := by unfold big; omega
  have he0 : eqD (.tup ((es.map rowE).map .str)) (.tup []) = some false := eq_nil_tup _ (by simpa using hne) (pyds_strs _) (shaped_tupS (rows_okS h))
  have ht := told_comp h [Sl.val (.tup ((es.map rowE).map .str)), .un, .un, .un, .un, .un] (by simp) μ
  have kd0 : ∀ e, 0 ≤ kd e := fun e => by unfold kd; split; exact Int.le_refl _; split <;> decide
  obtain ⟨ρ', μ', e, he⟩ := loop_inv (t := tTup 2 (tCons (tName 3) (tCons (tName 4) tNil))) (b := mSeq (mIf (mOr (mB (m2 dEq (mVal 4) (mTup mNil))) (mB (m2 dLt (mApp 1 m_place_of (mCons (mVal 4) mNil)) (mVal 2)))) (mRet (mLst (mCons (mVal 3) mNil))) mSkip) (mSet 2 (mApp 1 m_place_of (mCons (mVal 4) mNil))))
    (P := fun r ρ μ1 => μ1 = μ ∧ ∃ (i : Nat) (last : Int) (a b x y z : Sl), r = enumD i ((es.drop i).map wordsD) ∧ (∀ e ∈ es.drop i, last ≤ kd e) ∧ ρ = [a, b, Sl.val (.int last), x, y, z])
    (ds := enumD 0 (es.map wordsD)) (ρ := [Sl.val (.tup ((es.map rowE).map .str)), .val (.lst (es.map wordsD)), .val (.int 0), .un, .un, .un]) (μ := μ) ⟨rfl, 0, 0, _, _, _, _, _, rfl, fun e _ => kd0 e, rfl⟩ (by
      rintro d r ρ μ1 ⟨rfl, i, last, a, b, x, y, z, h1, hlast, rfl⟩
      have hi : i < es.length := by
        by_cases hi : i < es.length
        · exact hi
        · rw [List.drop_of_length_le (by omega)] at h1
          cases h1
      have hdrop : es.drop i = es[i] :: es.drop (i + 1) := List.drop_eq_getElem_cons hi
      rw [hdrop, List.map_cons, enumD] at h1
      injection h1 with h1 h2
      subst h1 h2
      have hE := h es[i] (List.getElem_mem hi)
      have hp := place_ent hE μ1
      have hq := words_ne hE
      have hc : isClo (wordsD es[i]) = false := rfl
      have hle := hlast es[i] (hdrop ▸ List.mem_cons_self)
      have hlt : ¬ kd es[i] < last := by omega
      refine ⟨_, [a, b, Sl.val (.int (kd es[i])), .val (.int (i : Nat)), .val (wordsD es[i]), z], μ1, rfl, by simp [hc, dEq, hq, hp, dLt, hlt, hz], rfl, i + 1, kd es[i], a, b, _, _, _, rfl, fun e he => ?_, rfl⟩
      have hsub : (es.drop i).Sublist es := List.drop_sublist i es
      have hpw := hk.sublist (hsub.map kd)
      rw [hdrop, List.map_cons, List.pairwise_cons] at hpw
      exact hpw.1 _ (List.mem_map_of_mem he))
  obtain ⟨rfl, i, last, a, b, x, y, z, _, _, rfl⟩ := he
  simp only [List.map_map] at he0 ht e ⊢
  simp [m_wrong_in_rows, b_wrong_in_rows, runF, dIsi, tyD, isiB, dEq, he0, hz, hb, ht, seqD, e]
/-! what rows tell -/
theorem eq_kind {e : Ent} (h : EntOk e) {w : Str} (hw : w ∈ [pS, mS, nS]) : eqD (.str e.1) (.str w) = some (decide (e.1 = w)) := eqD_str (kinds_ok _ h.w) (kinds_ok _ hw)
theorem comp_kind {es : List Ent} (h : ∀ e ∈ es, EntOk e) {w : Str} (hw : w ∈ [pS, mS, nS]) {k : D} (hk : k = .str w) {m : Ex D} {f : Ent → D} (ρ : Env') (hρ : 6 < ρ.length) (μ : Sto) (hm : ∀ e ∈ es, e.1 = w → m (ρ.set 6 (.val (wordsD e))) μ = .ok (f e) μ) :
    compL (tName 6) (mB (m2 dEq (m2 dIx (mVal 6) (mC (.int 0))) (mC k))) m ρ (es.map wordsD) μ = .ok ((es.filter fun e => decide (e.1 = w)).map f) μ := by
  subst hk
  induction es with
  | nil => rfl
  | cons e es ih =>
    have ih := ih (fun x hx => h x (by simp [hx])) (fun x hx => hm x (by simp [hx]))
    have hE := h e (by simp)
    have hc : (mB (m2 dEq (m2 dIx (mVal 6) (mC (.int 0))) (mC (.str w)))) (ρ.set 6 (.val (wordsD e))) μ = .ok (decide (e.1 = w)) μ := by
      have hcl : isClo (wordsD e) = false := rfl
      simp [hρ, hcl, wordsD, dIx, atI0, dEq, eq_kind hE hw]
    rw [List.map_cons, z_compL]
    simp only [z_tName, hc]
    by_cases hd : e.1 = w
    · have := hm e (by simp) hd
      simp only [hd, decide_true, this, ih, z_bind_ok, List.filter_cons, if_true, List.map_cons]
    · simp only [hd, decide_false, ih, List.filter_cons, Bool.false_eq_true, if_false]
theorem int_cnt {c : Int} (h : 0 ≤ c ∧ c ≤ 7) : PySem.intText? (cntS c) = some c := by
  rcases cnt_cases h with rfl | rfl | rfl | rfl | rfl | rfl | rfl | rfl <;> decide +kernel
theorem filter_p (l : List Str) (cs : List Int) (ys ns : List (Str × Str)) : (entsOf l cs ys ns).filter (fun e => decide (e.1 = pS)) = (l.zip cs).map fun p => (pS, p.1, cntS p.2) := by
  have h1 : ∀ l : List (Str × Int), (l.map fun p => ((pS, p.1, cntS p.2) : Ent)).filter (fun e => decide (e.1 = pS)) = l.map fun p => (pS, p.1, cntS p.2) := fun l => by
    rw [List.filter_eq_self]
    intro e he
    obtain ⟨p, _, rfl⟩ := List.mem_map.mp he
    simp
  have h2 : ∀ (w : Str) (hw : ¬ w = pS) (l : List (Str × Str)), (l.map fun p => ((w, p.1, p.2) : Ent)).filter (fun e => decide (e.1 = pS)) = [] := fun w hw l => by
    rw [List.filter_eq_nil_iff]
    intro e he
    obtain ⟨p, _, rfl⟩ := List.mem_map.mp he
    simp [hw]
  simp only [entsOf, List.filter_append, h1, h2 mS mS_ne, h2 nS nS_ne, List.append_nil]
theorem filter_m (l : List Str) (cs : List Int) (ys ns : List (Str × Str)) : (entsOf l cs ys ns).filter (fun e => decide (e.1 = mS)) = ys.map fun p => (mS, p.1, p.2) := by
  have h1 : (ys.map fun p => ((mS, p.1, p.2) : Ent)).filter (fun e => decide (e.1 = mS)) = ys.map fun p => (mS, p.1, p.2) := by
    rw [List.filter_eq_self]
    intro e he
    obtain ⟨p, _, rfl⟩ := List.mem_map.mp he
    simp
  have h2 : (ns.map fun p => ((nS, p.1, p.2) : Ent)).filter (fun e => decide (e.1 = mS)) = [] := by
    rw [List.filter_eq_nil_iff]
    intro e he
    obtain ⟨p, _, rfl⟩ := List.mem_map.mp he
    simp [nS_ne2]
  have h3 : ((l.zip cs).map fun p => ((pS, p.1, cntS p.2) : Ent)).filter (fun e => decide (e.1 = mS)) = [] := by
    rw [List.filter_eq_nil_iff]
    intro e he
    obtain ⟨p, _, rfl⟩ := List.mem_map.mp he
    have : ¬ pS = mS := fun z => mS_ne z.symm
    simp [this]
  simp only [entsOf, List.filter_append, h1, h2, h3, List.nil_append, List.append_nil]
theorem filter_n (l : List Str) (cs : List Int) (ys ns : List (Str × Str)) : (entsOf l cs ys ns).filter (fun e => decide (e.1 = nS)) = ns.map fun p => (nS, p.1, p.2) := by
  have h1 : (ns.map fun p => ((nS, p.1, p.2) : Ent)).filter (fun e => decide (e.1 = nS)) = ns.map fun p => (nS, p.1, p.2) := by
    rw [List.filter_eq_self]
    intro e he
    obtain ⟨p, _, rfl⟩ := List.mem_map.mp he
    simp
  have h2 : (ys.map fun p => ((mS, p.1, p.2) : Ent)).filter (fun e => decide (e.1 = nS)) = [] := by
    rw [List.filter_eq_nil_iff]
    intro e he
    obtain ⟨p, _, rfl⟩ := List.mem_map.mp he
    have : ¬ mS = nS := fun z => nS_ne2 z.symm
    simp [this]
  have h3 : ((l.zip cs).map fun p => ((pS, p.1, cntS p.2) : Ent)).filter (fun e => decide (e.1 = nS)) = [] := by
    rw [List.filter_eq_nil_iff]
    intro e he
    obtain ⟨p, _, rfl⟩ := List.mem_map.mp he
    have : ¬ pS = nS := fun z => nS_ne z.symm
    simp [this]
  simp only [entsOf, List.filter_append, h1, h2, h3, List.nil_append]
theorem cut3 {α : Type} (a b c : α) : cut [a, b, c] (some 1) none = [b, c] := rfl
theorem zip_fst : ∀ {l : List Str} {cs : List Int}, cs.length = l.length → (l.zip cs).map (·.1) = l
  | [], _, _ => by simp
  | a :: l, [], h => by simp at h
  | a :: l, c :: cs, h => by
    have := zip_fst (l := l) (cs := cs) (by simpa using h)
    simp [this]
theorem zip_snd : ∀ {l : List Str} {cs : List Int}, cs.length = l.length → (l.zip cs).map (·.2) = cs
  | [], [], _ => rfl
  | [], c :: cs, h => by simp at h
  | a :: l, [], h => by simp at h
  | a :: l, c :: cs, h => by
    have := zip_snd (l := l) (cs := cs) (by simpa using h)
    simp [this]
def intE (e : Ent) : D := match PySem.intText? e.2.2 with
  | some n => .int n
  | none => .non
theorem rows_told_ok {l : List Str} {cs : List Int} {ys ns : List (Str × Str)} (h : Told l cs ys ns) (hy : ys.length ≤ 1000) (hN : ns.length ≤ 1000) (μ : Sto) : m_rows_told [.tup ((rowsOf l cs ys ns).map .str)] μ = .ok (.tup [.tup (l.map .str), .tup (cs.map .int), .tup (ys.map pairD), .tup (ns.map pairD)]) μ := by
  have hok := ents_ok h
  have hlen : (entsOf l cs ys ns).length ≤ big := by
    simp only [entsOf, List.length_append, List.length_map, List.length_zip]
    have := h.most
    unfold big
    omega
  rw [rows_ents]
  generalize hes : entsOf l cs ys ns = es at hok hlen
  have hz4 : (4 : Nat) ≤ big := by decide
  have k1 : pS ∈ [pS, mS, nS] := by simp
  have k2 : mS ∈ [pS, mS, nS] := by simp
  have k3 : nS ∈ [pS, mS, nS] := by simp
  have hcnt : ∀ e ∈ es, e.1 = pS → e.2.2.length ≤ 640 ∧ ∃ n, PySem.intText? e.2.2 = some n := by
    intro e he hp
    have hm : e ∈ (entsOf l cs ys ns).filter (fun e => decide (e.1 = pS)) := List.mem_filter.mpr ⟨hes ▸ he, by simp [hp]⟩
    rw [filter_p] at hm
    obtain ⟨⟨a, c⟩, hac, rfl⟩ := List.mem_map.mp hm
    have hc := h.cnt c (List.of_mem_zip hac).2
    exact ⟨by show (cntS c).length ≤ 640; rw [cntS_len hc]; omega, c, int_cnt hc⟩
  have cp : ∀ ρ : Env', ρ.length = 7 → compL (tName 6) (mB (m2 dEq (m2 dIx (mVal 6) (mC (.int 0))) (mC c_PERSON))) (m2 dIx (mVal 6) (mC (.int 1))) ρ (es.map wordsD) μ = .ok (l.map .str) μ := fun ρ hρ => by
    have := comp_kind hok k1 (k := c_PERSON) rfl (m := m2 dIx (mVal 6) (mC (.int 1))) (f := fun e => .str e.2.1) ρ (by omega) μ (fun e he _ => by
      have hcl : isClo (wordsD e) = false := rfl
      simp [hρ, hcl, wordsD, dIx, atI1])
    rw [this, ← hes, filter_p, List.map_map]
    have e2 : ((fun e : Ent => D.str e.2.1) ∘ fun p : Str × Int => ((pS, p.1, cntS p.2) : Ent)) = D.str ∘ (·.1) := rfl
    rw [e2, ← List.map_map, zip_fst h.len]
  have cc : ∀ ρ : Env', ρ.length = 7 → compL (tName 6) (mB (m2 dEq (m2 dIx (mVal 6) (mC (.int 0))) (mC c_PERSON))) (mCall dInt (mCons (m2 dIx (mVal 6) (mC (.int 2))) mNil)) ρ (es.map wordsD) μ = .ok (cs.map .int) μ := fun ρ hρ => by
    have := comp_kind hok k1 (k := c_PERSON) rfl (m := mCall dInt (mCons (m2 dIx (mVal 6) (mC (.int 2))) mNil)) (f := intE) ρ (by omega) μ (fun e he hp => by
      have hcl : isClo (wordsD e) = false := rfl
      obtain ⟨h6, n, hn⟩ := hcnt e he hp
      simp [hρ, hcl, wordsD, dIx, atI2, dInt, h6, hn, intE])
    rw [this, ← hes, filter_p, List.map_map]
    have e2 : (l.zip cs).map (intE ∘ fun p : Str × Int => ((pS, p.1, cntS p.2) : Ent)) = (l.zip cs).map (D.int ∘ (·.2)) := by
      apply List.map_congr_left
      intro p hp
      have hc := h.cnt p.2 (List.of_mem_zip (a := p.1) (b := p.2) hp).2
      simp [intE, int_cnt hc]
    rw [e2, ← List.map_map, zip_snd h.len]
  have cy : ∀ ρ : Env', ρ.length = 7 → compL (tName 6) (mB (m2 dEq (m2 dIx (mVal 6) (mC (.int 0))) (mC c_MET))) (mSl (mVal 6) (mPart (mC (.int 1))) mNo) ρ (es.map wordsD) μ = .ok (ys.map pairD) μ := fun ρ hρ => by
    have := comp_kind hok k2 (k := c_MET) rfl (m := mSl (mVal 6) (mPart (mC (.int 1))) mNo) (f := fun e => .tup [.str e.2.1, .str e.2.2]) ρ (by omega) μ (fun e he _ => by
      have hcl : isClo (wordsD e) = false := rfl
      simp [hρ, hcl, wordsD, dSl, cut3])
    rw [this, ← hes, filter_m, List.map_map]
    rfl
  have cn : ∀ ρ : Env', ρ.length = 7 → compL (tName 6) (mB (m2 dEq (m2 dIx (mVal 6) (mC (.int 0))) (mC c_NOT))) (mSl (mVal 6) (mPart (mC (.int 1))) mNo) ρ (es.map wordsD) μ = .ok (ns.map pairD) μ := fun ρ hρ => by
    have := comp_kind hok k3 (k := c_NOT) rfl (m := mSl (mVal 6) (mPart (mC (.int 1))) mNo) (f := fun e => .tup [.str e.2.1, .str e.2.2]) ρ (by omega) μ (fun e he _ => by
      have hcl : isClo (wordsD e) = false := rfl
      simp [hρ, hcl, wordsD, dSl, cut3])
    rw [this, ← hes, filter_n, List.map_map]
    rfl
  have ht := fun r1 r2 r3 r4 r5 r6 => told_comp hok [Sl.val (.tup ((es.map rowE).map .str)), r1, r2, r3, r4, r5, r6] (by simp) μ
  simp only [List.map_map] at ht ⊢
  simp [m_rows_told, b_rows_told, runF, hlen, ht, cp, cc, cy, cn, dTuple, hz4]
theorem kd_up (l : List Str) (cs : List Int) (ys ns : List (Str × Str)) : ((entsOf l cs ys ns).map kd).Pairwise (· ≤ ·) := by
  have a1 : ∀ e ∈ (l.zip cs).map (fun p => ((pS, p.1, cntS p.2) : Ent)), kd e = 0 := fun e he => by
    obtain ⟨p, _, rfl⟩ := List.mem_map.mp he
    simp [kd]
  have a2 : ∀ e ∈ ys.map (fun p => ((mS, p.1, p.2) : Ent)), kd e = 1 := fun e he => by
    obtain ⟨p, _, rfl⟩ := List.mem_map.mp he
    simp [kd, mS_ne]
  have a3 : ∀ e ∈ ns.map (fun p => ((nS, p.1, p.2) : Ent)), kd e = 2 := fun e he => by
    obtain ⟨p, _, rfl⟩ := List.mem_map.mp he
    simp [kd, nS_ne, nS_ne2]
  have same : ∀ (L : List Ent) (k : Int), (∀ e ∈ L, kd e = k) → L.Pairwise (fun a b => kd a ≤ kd b) := fun L k h => by
    induction L with
    | nil => exact .nil
    | cons e L ih => exact .cons (fun x hx => by rw [h e (by simp), h x (by simp [hx])]; exact Int.le_refl _) (ih fun x hx => h x (by simp [hx]))
  rw [List.pairwise_map]
  unfold entsOf
  refine List.pairwise_append.mpr ⟨same _ 0 a1, List.pairwise_append.mpr ⟨same _ 1 a2, same _ 2 a3, fun a ha b hb => by rw [a2 a ha, a3 b hb]; decide⟩, fun a ha b hb => ?_⟩
  rw [a1 a ha]
  rcases List.mem_append.mp hb with hb | hb
  · rw [a2 b hb]; decide
  · rw [a3 b hb]; decide
theorem read_told_ok {l : List Str} {cs : List Int} {ys ns : List (Str × Str)} (h : Told l cs ys ns) (hy : ys.length ≤ 1000) (hN : ns.length ≤ 1000) (μ : Sto) : m_read_told [.tup ((rowsOf l cs ys ns).map .str)] μ = .ok (.tup [.tup (l.map .str), .tup (cs.map .int), .tup (ys.map pairD), .tup (ns.map pairD)]) μ := by
  have hok := ents_ok h
  have hlen : (entsOf l cs ys ns).length ≤ 5000 := by
    simp only [entsOf, List.length_append, List.length_map, List.length_zip]
    have := h.most
    omega
  have hne : entsOf l cs ys ns ≠ [] := by
    intro z
    have z2 : (entsOf l cs ys ns).length = 0 := by rw [z]; rfl
    simp only [entsOf, List.length_append, List.length_map, List.length_zip] at z2
    have h1 := h.one
    have h2 := h.len
    omega
  have hw := wrong_rows_ok hok hne hlen (kd_up l cs ys ns) μ
  rw [← rows_ents] at hw
  have hz4 : (4 : Nat) ≤ big := by decide
  simp [m_read_told, b_read_told, runF, hw, rows_told_ok h hy hN, check_told_ok h, hz4]
end K85

set_option Elab.async false
set_option linter.all false
set_option maxRecDepth 100000
set_option maxHeartbeats 4000000
namespace K85
open PySem PySem.Spec PyProof.Rows L2 NdefX MP
/-! draws -/
theorem small_mod (x : Int) {m : Int} (h0 : 0 < m) (h1 : m ≤ 2147483587) : MP.small64 (x % m) = true := by
  have a := Int.emod_nonneg x (Int.ne_of_gt h0)
  have b := Int.emod_lt_of_pos x h0
  simp only [MP.small64, Bool.and_eq_true, decide_eq_true_eq]
  omega
theorem ixN3_0 : ixN 3 0 = some 0 := rfl
theorem ixN3_1 : ixN 3 1 = some 1 := rfl
theorem ixN3_2 : ixN 3 2 = some 2 := rfl
theorem s40009 : MP.small64 40009 = true := by decide +kernel
theorem s15013 : MP.small64 15013 = true := by decide +kernel
theorem draw_ok {n : Nat} {μ : Sto} {a b c : Int} (h : μ[n]? = some (.lst [.int a, .int b, .int c])) {lim : Int} (h0 : 0 < lim) (h1 : lim < 1073741824) :
    ∃ r a' b' c', m__law_draw [.loc n, .int lim] μ = .ok (.int r) (μ.set n (.lst [.int a', .int b', .int c'])) ∧ 0 ≤ r ∧ r < lim := by
  have hn : n < μ.length := (List.getElem?_eq_some_iff.mp h).1
  have hs : ∀ x, (μ.set n x)[n]? = some x := fun x => by rw [List.getElem?_set_self hn]
  clear hn
  by_cases ha : 0 < a
  · refine ⟨a % lim, a / lim, b, c, ?_, Int.emod_nonneg _ (Int.ne_of_gt h0), Int.emod_lt_of_pos _ h0⟩
    simp [m__law_draw, b__law_draw, runF, dIx, h, atI0, dGt, ha, dDivmod, h0, h1, ixN3_0]
  · refine ⟨((((b * 40009 + 15013 * (c + 1) + 3) % 2147483587) * (((b * 40009 + 15013 * (c + 1) + 3) % 2147483587) % 5003 + 20011) + (c + 1)) % 2147483587) / 1031 % lim, a, ((((b * 40009 + 15013 * (c + 1) + 3) % 2147483587) * (((b * 40009 + 15013 * (c + 1) + 3) % 2147483587) % 5003 + 20011) + (c + 1)) % 2147483587), c + 1, ?_, Int.emod_nonneg _ (Int.ne_of_gt h0), Int.emod_lt_of_pos _ h0⟩
    simp [m__law_draw, b__law_draw, runF, dIx, h, atI0, atI1, atI2, dGt, ha, dAdd, ixN3_2, ixN3_1, hs, dMul, s40009, s15013, dInt, dMod, small_mod, dDiv, h0, List.set_set]
theorem atI_nat {α : Type} {xs : List α} {r : Int} (h0 : 0 ≤ r) (h1 : r < xs.length) : ∃ x, atI xs r = some x ∧ x ∈ xs ∧ xs[r.toNat]? = some x := by
  have h2 : r.toNat < xs.length := by omega
  refine ⟨xs[r.toNat], ?_, List.getElem_mem h2, List.getElem?_eq_getElem h2⟩
  unfold atI ixN
  rw [if_pos h0, if_pos h1]
  exact List.getElem?_eq_getElem h2
theorem of_tup {n : Nat} {μ : Sto} {a b c : Int} (h : μ[n]? = some (.lst [.int a, .int b, .int c])) {xs : List D} (h0 : 1 ≤ xs.length) (h1 : xs.length ≤ 1000) :
    ∃ d a' b' c', m__law_of [.loc n, .tup xs] μ = .ok d (μ.set n (.lst [.int a', .int b', .int c'])) ∧ d ∈ xs := by
  obtain ⟨r, a', b', c', e, r0, r1⟩ := draw_ok h (lim := (xs.length : Nat)) (by omega) (by omega)
  obtain ⟨x, hx, hm, _⟩ := atI_nat r0 r1
  refine ⟨x, a', b', c', ?_, hm⟩
  simp [m__law_of, b__law_of, runF, dLen, e, dIx, hx]
theorem of_str {n : Nat} {μ : Sto} {a b c : Int} (h : μ[n]? = some (.lst [.int a, .int b, .int c])) {x : Str} (h0 : 1 ≤ x.length) (h1 : x.length ≤ 1000) :
    ∃ d a' b' c', m__law_of [.loc n, .str x] μ = .ok (.str ⟨#[d]⟩) (μ.set n (.lst [.int a', .int b', .int c'])) ∧ d ∈ x.cps.toList := by
  have hl : x.cps.toList.length = x.length := Array.length_toList
  obtain ⟨r, a', b', c', e, r0, r1⟩ := draw_ok h (lim := (x.length : Nat)) (by omega) (by omega)
  obtain ⟨y, hx, hm, _⟩ := atI_nat (xs := x.cps.toList) r0 (by rw [hl]; exact r1)
  have hb : x.length ≤ big := small_big h1
  refine ⟨y, a', b', c', ?_, hm⟩
  simp [m__law_of, b__law_of, runF, dLen, e, dIx, hx, hb]
/-! words of the law -/
theorem law_words (μ : Sto) : m__law_words [] μ = .ok (.lst (wordsL.map .str)) μ := by
  have e1 : (PySem.Str.ofString "all book can case count day days how is met never no none not of open or people quit strike sure tell" : Str).length + (PySem.Str.ofString " undo web yes").length ≤ big := by decide +kernel
  have e2 : ((PySem.Str.ofString "all book can case count day days how is met never no none not of open or people quit strike sure tell" ++ PySem.Str.ofString " undo web yes" : Str)).length ≤ big := by decide +kernel
  have sp1 : ¬ (PySem.Str.ofString " ").length = 0 := by decide +kernel
  have e3 : Txt.split (PySem.Str.ofString "all book can case count day days how is met never no none not of open or people quit strike sure tell" ++ PySem.Str.ofString " undo web yes") (PySem.Str.ofString " ") = wordsL := by decide +kernel
  simp [m__law_words, b__law_words, runF, dAdd, e1, dSplit, sp1, e2, e3]
/-! the store of wells -/
def Well (n : Nat) (μ : Sto) : Prop := ∃ a b c : Int, μ[n]? = some (.lst [.int a, .int b, .int c])
structure Pre (n : Nat) (μ0 μ : Sto) : Prop where
  well : Well n μ
  len : μ0.length ≤ μ.length
  same : ∀ i, i < μ0.length → i ≠ n → μ[i]? = μ0[i]?
theorem Pre.refl {n : Nat} {μ : Sto} (h : Well n μ) : Pre n μ μ := ⟨h, Nat.le_refl _, fun _ _ _ => rfl⟩
theorem Pre.trans {n : Nat} {μ0 μ1 μ2 : Sto} (h : Pre n μ0 μ1) (h2 : Pre n μ1 μ2) : Pre n μ0 μ2 :=
  ⟨h2.well, Nat.le_trans h.len h2.len, fun i hi hn => (h2.same i (Nat.lt_of_lt_of_le hi h.len) hn).trans (h.same i hi hn)⟩
theorem pre_set {n : Nat} {μ : Sto} (h : Well n μ) (a b c : Int) : Pre n μ (μ.set n (.lst [.int a, .int b, .int c])) := by
  obtain ⟨a0, b0, c0, h0⟩ := h
  have hn := (List.getElem?_eq_some_iff.mp h0).1
  exact ⟨⟨a, b, c, by rw [List.getElem?_set_self hn]⟩, by rw [List.length_set]; exact Nat.le_refl _, fun i _ hi => List.getElem?_set_ne (Ne.symm hi)⟩
theorem pre_app {n : Nat} {μ : Sto} (h : Well n μ) (o : Ob) : Pre n μ (μ ++ [o]) := by
  obtain ⟨a0, b0, c0, h0⟩ := h
  have hn := (List.getElem?_eq_some_iff.mp h0).1
  exact ⟨⟨a0, b0, c0, by rw [List.getElem?_append_left hn]; exact h0⟩, by rw [List.length_append]; omega, fun i hi _ => List.getElem?_append_left hi⟩
theorem pre_put {n f : Nat} {μ0 μ : Sto} (h : Pre n μ0 μ) (hf : μ0.length ≤ f) (hn : n < μ0.length) (o : Ob) : Pre n μ0 (μ.set f o) := by
  obtain ⟨a0, b0, c0, h0⟩ := h.well
  exact ⟨⟨a0, b0, c0, by rw [List.getElem?_set_ne (by omega)]; exact h0⟩, by rw [List.length_set]; exact h.len, fun i hi hne => by rw [List.getElem?_set_ne (by omega)]; exact h.same i hi hne⟩
theorem draw2 {n : Nat} {μ : Sto} (h : Well n μ) {lim : Int} (h0 : 0 < lim) (h1 : lim < 1073741824) : ∃ r μ', m__law_draw [.loc n, .int lim] μ = .ok (.int r) μ' ∧ Pre n μ μ' ∧ μ'.length = μ.length ∧ 0 ≤ r ∧ r < lim := by
  obtain ⟨a, b, c, hw⟩ := id h
  obtain ⟨r, a', b', c', e, r0, r1⟩ := draw_ok hw h0 h1
  exact ⟨r, _, e, pre_set h a' b' c', by rw [List.length_set], r0, r1⟩
theorem of_tup2 {n : Nat} {μ : Sto} (h : Well n μ) {xs : List D} (h0 : 1 ≤ xs.length) (h1 : xs.length ≤ 1000) : ∃ d μ', m__law_of [.loc n, .tup xs] μ = .ok d μ' ∧ Pre n μ μ' ∧ μ'.length = μ.length ∧ d ∈ xs := by
  obtain ⟨a, b, c, hw⟩ := id h
  obtain ⟨d, a', b', c', e, hd⟩ := of_tup hw h0 h1
  exact ⟨d, _, e, pre_set h a' b' c', by rw [List.length_set], hd⟩
theorem of_str2 {n : Nat} {μ : Sto} (h : Well n μ) {x : Str} (h0 : 1 ≤ x.length) (h1 : x.length ≤ 1000) : ∃ d μ', m__law_of [.loc n, .str x] μ = .ok (.str ⟨#[d]⟩) μ' ∧ Pre n μ μ' ∧ μ'.length = μ.length ∧ d ∈ x.cps.toList := by
  obtain ⟨a, b, c, hw⟩ := id h
  obtain ⟨d, a', b', c', e, hd⟩ := of_str hw h0 h1
  exact ⟨d, _, e, pre_set h a' b' c', by rw [List.length_set], hd⟩
def abc : Str := "abcdefghijklmnopqrstuvwxyz"
theorem abc_len : abc.length = 26 := by decide +kernel
theorem abc_lets : lets abc := fun c hc => mem_letters.mp hc
/-- the letters of a name are put together -/
theorem name_loop {n : Nat} {vn vm vf vt vs va : Sl} (hv : vn = Sl.val (.loc n)) : ∀ (k : Nat) (lo : Int) (s : Str) (μ : Sto) (vl : Sl), Well n μ → lets s → s.length + k ≤ 100 →
    ∃ (s' : Str) (μ' : Sto) (vl' : Sl), loop (tName 7) (mSet 5 (m2 dAdd (mVal 5) (mApp 2 m__law_of (mCons (mVal 0) (mCons (mVal 2) mNil))))) (rngD lo k) [vn, vm, .val (.str abc), vf, vt, .val (.str s), vs, vl, va] μ =
      .nx [vn, vm, .val (.str abc), vf, vt, .val (.str s'), vs, vl', va] μ' ∧ Pre n μ μ' ∧ μ'.length = μ.length ∧ lets s' ∧ s'.length = s.length + k
  | 0, lo, s, μ, vl, hw, hs, _ => ⟨s, μ, vl, rfl, .refl hw, rfl, hs, rfl⟩
  | k + 1, lo, s, μ, vl, hw, hs, hk => by
    subst hv
    obtain ⟨d, μ1, e, hp, hl, hd⟩ := of_str2 hw (x := abc) (by rw [abc_len]; omega) (by rw [abc_len]; omega)
    have hone : (⟨#[d]⟩ : Str).length = 1 := rfl
    have hb : s.length + 1 ≤ big := small_big (by omega)
    have hs2 : lets (s ++ ⟨#[d]⟩) := fun c hc => by
      rw [app_list] at hc
      rcases List.mem_append.mp hc with hc | hc
      · exact hs c hc
      · simp only [List.mem_cons, List.not_mem_nil, or_false] at hc
        rw [hc]
        exact abc_lets d hd
    have hl2 : (s ++ (⟨#[d]⟩ : Str)).length = s.length + 1 := by rw [app_len, hone]
    obtain ⟨s', μ', vl', e2, hp2, hl3, hs3, hl4⟩ := name_loop (vn := .val (.loc n)) (vm := vm) (vf := vf) (vt := vt) (vs := vs) (va := va) rfl k (lo + 1) (s ++ ⟨#[d]⟩) μ1 (.val (.int lo)) hp.well hs2 (by rw [hl2]; omega)
    refine ⟨s', μ', vl', ?_, hp.trans hp2, hl3.trans hl, hs3, by rw [hl4, hl2]; omega⟩
    rw [rngD, z_loop]
    simp [e, dAdd, hone, hb, e2]
theorem cut_drop {α : Type} (xs : List α) (i : Nat) : cut xs (some (i : Int)) none = xs.drop i := by
  unfold cut HT.sIx
  simp only [Int.not_lt.mpr (Int.natCast_nonneg i), if_false, Int.toNat_natCast]
  by_cases h : i ≤ xs.length
  · rw [Nat.min_eq_left h]
    exact List.take_of_length_le (by rw [List.length_drop]; omega)
  · rw [Nat.min_eq_right (by omega), List.drop_length, List.drop_of_length_le (by omega)]
    simp
theorem cutS_take (s : Str) (i : Nat) : cutS s none (some (i : Int)) = ⟨(s.cps.toList.take i).toArray⟩ := by
  have := cut_take s.cps.toList i
  have hl : s.cps.toList.length = s.length := Array.length_toList
  unfold cut at this
  unfold cutS
  rw [hl] at this
  rw [this]
theorem cutS_drop (s : Str) (i : Nat) : cutS s (some (i : Int)) none = ⟨(s.cps.toList.drop i).toArray⟩ := by
  have := cut_drop s.cps.toList i
  have hl : s.cps.toList.length = s.length := Array.length_toList
  unfold cut at this
  unfold cutS
  rw [hl] at this
  rw [this]
theorem cut_drop1 {α : Type} (xs : List α) (k : Nat) : cut xs (some ((k : Int) + 1)) none = xs.drop (k + 1) := cut_drop xs (k + 1)
/-! pairs -/
def tails (xs : List Str) : List (Str × Str) := match xs with
  | [] => []
  | a :: r => r.map (fun b => (a, b)) ++ tails r
theorem law_pairs_ok {l : List Str} (h8 : l.length ≤ 8) (μ : Sto) : m__law_pairs [.tup (l.map .str)] μ = .ok (.lst ((tails l).map pairD)) μ := by
  have hz : (0 : Nat) ≤ big := Nat.zero_le _
  have h2 : (2 : Nat) ≤ big := by decide
  have hsm : smallI (l.length : Nat) = true := by
    simp only [smallI, Bool.and_eq_true, decide_eq_true_eq]
    omega
  obtain ⟨ρ', μ', e, he⟩ := loop_inv (t := tName 2) (b := mSet 1 (m2 dAdd (mVal 1) (mComp (mIt (mSl (mVal 0) (mPart (m2 dAdd (mVal 2) (mC (.int 1)))) mNo)) [3] (tName 3) mTrue (mTup (mCons (m2 dIx (mVal 0) (mVal 2)) (mCons (mVal 3) mNil))))))
    (P := fun r ρ μ1 => μ1 = μ ∧ ∃ (k : Nat) (pr : List (Str × Str)) (x y : Sl), r = rngD k (l.length - k) ∧ k ≤ l.length ∧ ρ = [Sl.val (.tup (l.map .str)), .val (.lst (pr.map pairD)), x, y] ∧ pr ++ tails (l.drop k) = tails l ∧ pr.length ≤ 8 * k)
    (ds := rngD 0 l.length) (ρ := [Sl.val (.tup (l.map .str)), .val (.lst []), .un, .un]) (μ := μ) ⟨rfl, 0, [], _, _, rfl, Nat.zero_le _, rfl, rfl, Nat.zero_le _⟩ (by
      rintro d r ρ μ1 ⟨rfl, k, pr, x, y, h1, hk, rfl, hp, hl⟩
      have hk2 : k < l.length := by
        by_cases hk2 : k < l.length
        · exact hk2
        · rw [show l.length - k = 0 by omega, rngD] at h1
          cases h1
      obtain ⟨m, hm⟩ : ∃ m, l.length - k = m + 1 := ⟨l.length - k - 1, by omega⟩
      rw [hm, rngD] at h1
      injection h1 with h1 h1'
      subst h1 h1'
      have hdrop : l.drop k = l[k] :: l.drop (k + 1) := List.drop_eq_getElem_cons hk2
      have hix : ∀ μ, dIx μ (.tup (l.map .str)) (.int (k : Nat)) = some (.str l[k]) := fun μ => by
        unfold dIx L2.atI ixN
        simp only [List.length_map]
        rw [if_pos (by omega), if_pos (by omega)]
        simp [hk2]
      have hk1 : ((k : Int) + 1) = ((k + 1 : Nat) : Int) := by omega
      have hcomp : ∀ ρ : Env', ρ = [Sl.val (.tup (l.map .str)), .val (.lst (pr.map pairD)), .val (.int (k : Nat)), .un] → compL (tName 3) mTrue (mTup (mCons (m2 dIx (mVal 0) (mVal 2)) (mCons (mVal 3) mNil))) ρ ((l.map D.str).drop (k + 1)) μ1 = .ok (((l.drop (k + 1)).map fun b => (l[k], b)).map pairD) μ1 := fun ρ hρ => by
        subst hρ
        rw [← List.map_drop]
        have := compL_map (t := tName 3) (c := mTrue) (m := mTup (mCons (m2 dIx (mVal 0) (mVal 2)) (mCons (mVal 3) mNil))) (ρ := [Sl.val (.tup (l.map .str)), .val (.lst (pr.map pairD)), .val (.int (k : Nat)), .un]) (μ := μ1) (f := fun d => D.tup [.str l[k], d]) (ds := (l.drop (k + 1)).map .str) (fun d hd => by
          obtain ⟨b, _, rfl⟩ := List.mem_map.mp hd
          exact ⟨_, rfl, rfl, by simp [hix, h2]⟩)
        rw [this, List.map_map, List.map_map]
        rfl
      have hb1 : l.length - (k + 1) ≤ big := small_big (by omega)
      have hb2 : pr.length + (l.length - (k + 1)) ≤ big := small_big (by omega)
      refine ⟨_, [Sl.val (.tup (l.map .str)), .val (.lst ((pr ++ (l.drop (k + 1)).map fun b => (l[k], b)).map pairD)), .val (.int (k : Nat)), y], μ1, rfl, ?_, rfl, k + 1, _, _, _, ?_, hk2, rfl, ?_, ?_⟩
      · have hc := hcomp _ rfl
        simp [dAdd, dSl, cut_drop1, hb1, hc, hb2]
      · rw [show l.length - (k + 1) = m by omega]
        rw [hk1]
      · rw [List.append_assoc, ← hp, hdrop]
        rfl
      · simp only [List.length_append, List.length_map, List.length_drop]
        omega)
  obtain ⟨rfl, k, pr, x, y, hr, hk, rfl, hp, _⟩ := he
  have hkk : k = l.length := by
    by_cases hkk : k = l.length
    · exact hkk
    · obtain ⟨m, hm⟩ : ∃ m, l.length - k = m + 1 := ⟨l.length - k - 1, by omega⟩
      rw [hm, rngD] at hr
      cases hr
  subst hkk
  rw [List.drop_length] at hp
  have hp2 : pr = tails l := by rw [← hp]; simp [tails]
  subst hp2
  simp [m__law_pairs, b__law_pairs, runF, hz, dLen, hsm, e]
theorem two_rows_ok {n : Nat} {l : List Str} (h8 : l.length ≤ 8) (nd : (tails l).Nodup) {μ : Sto} (hw : Well n μ) (hlen : (tails l).length ≤ 1000) :
    ∃ (ys ns : List (Str × Str)) (μ' : Sto), m__law_two_rows [.loc n, .tup (l.map .str)] μ = .ok (.tup [.tup (ys.map pairD), .tup (ns.map pairD)]) μ' ∧ Pre n μ μ' ∧ ys.Sublist (tails l) ∧ ns.Sublist (tails l) ∧ ∀ p ∈ ns, p ∉ ys := by
  have hz : (0 : Nat) ≤ big := Nat.zero_le _
  have h1b : (1 : Nat) ≤ big := by decide
  have h2b : (2 : Nat) ≤ big := by decide
  obtain ⟨ρ', μ', e, he⟩ := loop_inv (t := tName 4) (b := mSeq (mSet 5 (mApp 2 m__law_draw (mCons (mVal 0) (mCons (mC (.int 6)) mNil)))) (mPar 2 3 (mCons (m2 dAdd (mVal 2) (mIfE (mB (m2 dEq (mVal 5) (mC (.int 0)))) (mLst (mCons (mVal 4) mNil)) (mLst mNil))) (mCons (m2 dAdd (mVal 3) (mIfE (mB (m2 dEq (mVal 5) (mC (.int 1)))) (mLst (mCons (mVal 4) mNil)) (mLst mNil))) mNil))))
    (P := fun r ρ μ1 => Pre n μ μ1 ∧ ∃ (dn rest ys ns : List (Str × Str)) (x y : Sl), r = rest.map pairD ∧ dn ++ rest = tails l ∧ ρ = [Sl.val (.loc n), .val (.tup (l.map .str)), .val (.lst (ys.map pairD)), .val (.lst (ns.map pairD)), x, y] ∧ ys.Sublist dn ∧ ns.Sublist dn ∧ ∀ p ∈ ns, p ∉ ys)
    (ds := (tails l).map pairD) (ρ := [Sl.val (.loc n), .val (.tup (l.map .str)), .val (.lst []), .val (.lst []), .un, .un]) (μ := μ) ⟨.refl hw, [], tails l, [], [], _, _, rfl, rfl, rfl, List.Sublist.refl _, List.Sublist.refl _, fun _ h => by simp at h⟩ (by
      rintro d r ρ μ1 ⟨hp, dn, rest, ys, ns, x, y, h1, h2, rfl, h3, h4, h5⟩
      cases rest with
      | nil => cases h1
      | cons p rest =>
        rw [List.map_cons] at h1
        injection h1 with h1 h1'
        subst h1 h1'
        obtain ⟨w, μ2, e2, hp2, _, w0, w6⟩ := draw2 hp.well (lim := 6) (by decide) (by decide)
        have hcl : isClo (pairD p) = false := rfl
        have hnp : p ∉ dn := by
          rw [← h2] at nd
          have := (List.nodup_append.mp nd).2.2
          intro hm
          exact this p hm p (by simp) rfl
        have hny : p ∉ ys := fun z => hnp (h3.subset z)
        have hnn : p ∉ ns := fun z => hnp (h4.subset z)
        have ly := h3.length_le
        have ln := h4.length_le
        have ld : dn.length + (rest.length + 1) ≤ 1000 := by
          rw [← h2, List.length_append, List.length_cons] at hlen
          exact hlen
        have b1 : ys.length + 1 ≤ big := small_big (by omega)
        have b2 : ns.length + 1 ≤ big := small_big (by omega)
        have b3 : ys.length ≤ big := small_big (by omega)
        have b4 : ns.length ≤ big := small_big (by omega)
        have hap : (dn ++ [p]) ++ rest = tails l := by rw [List.append_assoc]; exact h2
        have sub0 : ∀ {zs : List (Str × Str)}, zs.Sublist dn → zs.Sublist (dn ++ [p]) := fun h => h.trans (List.sublist_append_left _ _)
        by_cases c0 : w = 0
        · subst c0
          refine ⟨_, [Sl.val (.loc n), .val (.tup (l.map .str)), .val (.lst ((ys ++ [p]).map pairD)), .val (.lst (ns.map pairD)), .val (pairD p), .val (.int 0)], μ2, rfl, ?_, hp.trans hp2, dn ++ [p], rest, _, _, _, _, rfl, hap, rfl, h3.append (List.Sublist.refl _), sub0 h4, fun q hq => ?_⟩
          · simp [e2, dEq, hcl, dAdd, h1b, hz, b1, b4]
          · intro z
            rcases List.mem_append.mp z with z | z
            · exact h5 q hq z
            · rw [List.mem_singleton.mp z] at hq
              exact hnn hq
        · by_cases c1 : w = 1
          · subst c1
            refine ⟨_, [Sl.val (.loc n), .val (.tup (l.map .str)), .val (.lst (ys.map pairD)), .val (.lst ((ns ++ [p]).map pairD)), .val (pairD p), .val (.int 1)], μ2, rfl, ?_, hp.trans hp2, dn ++ [p], rest, _, _, _, _, rfl, hap, rfl, sub0 h3, h4.append (List.Sublist.refl _), fun q hq => ?_⟩
            · simp [e2, dEq, hcl, dAdd, h1b, hz, b2, b3]
            · rcases List.mem_append.mp hq with z | z
              · exact h5 q z
              · rw [List.mem_singleton.mp z]
                exact hny
          · refine ⟨_, [Sl.val (.loc n), .val (.tup (l.map .str)), .val (.lst (ys.map pairD)), .val (.lst (ns.map pairD)), .val (pairD p), .val (.int w)], μ2, rfl, ?_, hp.trans hp2, dn ++ [p], rest, _, _, _, _, rfl, hap, rfl, sub0 h3, sub0 h4, h5⟩
            simp [e2, dEq, hcl, dAdd, hz, b3, b4, c0, c1])
  obtain ⟨hp, dn, rest, ys, ns, x, y, h1, h2, rfl, h3, h4, h5⟩ := he
  have hr : rest = [] := by
    cases rest with
    | nil => rfl
    | cons p r => cases h1
  subst hr
  rw [List.append_nil] at h2
  subst h2
  refine ⟨ys, ns, μ', ?_, hp, h3, h4, h5⟩
  simp [m__law_two_rows, b__law_two_rows, runF, hz, h2b, law_pairs_ok h8, e, dTuple]
theorem rng_map (f : Int → D) : ∀ (n : Nat) (lo : Int), (rngD lo n).map (fun d => match d with | .int i => f i | _ => .non) = (List.range n).map fun i => f (lo + (i : Nat))
  | 0, lo => rfl
  | n + 1, lo => by
    rw [rngD, List.map_cons, rng_map f n (lo + 1), List.range_succ_eq_map, List.map_cons, List.map_map]
    congr 1
    · simp
    · apply List.map_congr_left
      intro i _
      show f (lo + 1 + (i : Nat)) = f (lo + ((i + 1 : Nat) : Int))
      congr 1
      omega
theorem law_rows_ok {l : List Str} {cs : List Int} {ys ns : List (Str × Str)} (h : Told l cs ys ns) (hy : ys.length ≤ 1000) (hN : ns.length ≤ 1000) (μ : Sto) : m__law_rows [.tup (l.map .str), .tup (cs.map .int), .tup (ys.map pairD), .tup (ns.map pairD)] μ = .ok (.tup ((rowsOf l cs ys ns).map .str)) μ := by
  have hsm : smallI (l.length : Nat) = true := by
    have := h.most
    simp only [smallI, Bool.and_eq_true, decide_eq_true_eq]
    omega
  have hrl : (rngD 0 l.length).length ≤ big := by rw [rngD_len]; have := h.most; exact small_big (by omega)
  have sp1 : (PySem.Str.ofString " ").length = 1 := by decide +kernel
  have len7 : (PySem.Str.ofString "person ").length = 7 := by decide +kernel
  have len4 : (PySem.Str.ofString "met ").length = 4 := by decide +kernel
  have len4n : (PySem.Str.ofString "not ").length = 4 := by decide +kernel
  have add3 : ∀ (μ : Sto) (w w2 a c : Str), w2.length ≤ 10 → a.length ≤ 100 → c.length ≤ 100 → w2.cps.toList = w.cps.toList ++ [32] → ∃ x y, dAdd μ (.str w2) (.str a) = some x ∧ dAdd μ x (.str (PySem.Str.ofString " ")) = some y ∧ dAdd μ y (.str c) = some (.str (row3 w a c)) := fun μ w w2 a c h1 h2 h3 h4 => by
    have l1 : w2.length + a.length ≤ big := small_big (by omega)
    have l2 : (w2 ++ a).length + (PySem.Str.ofString " ").length ≤ big := by rw [app_len, sp1]; exact small_big (by omega)
    have l3 : (w2 ++ a ++ PySem.Str.ofString " ").length + c.length ≤ big := by rw [app_len, app_len, sp1]; exact small_big (by omega)
    refine ⟨.str (w2 ++ a), .str (w2 ++ a ++ PySem.Str.ofString " "), ?_, ?_, ?_⟩
    · simp only [dAdd, l1, if_true]
    · simp only [dAdd, l2, if_true]
    · simp only [dAdd, l3, if_true, row_p w w2 a c h4]
  have c1 : ∀ ρ : Env', ρ.length = 8 → ρ[0]? = some (.val (.tup (l.map .str))) → ρ[1]? = some (.val (.tup (cs.map .int))) → compL (tName 5) mTrue (m2 dAdd (m2 dAdd (m2 dAdd (mC (.str "person ")) (m2 dIx (mVal 0) (mVal 5))) (mC (.str " "))) (mCall dStr (mCons (m2 dIx (mVal 1) (mVal 5)) mNil))) ρ (rngD 0 l.length) μ = .ok (((l.zip cs).map (fun p => row3 pS p.1 (cntS p.2))).map .str) μ := fun ρ hρ h0 h1 => by
    have := compL_map (t := tName 5) (c := mTrue) (m := m2 dAdd (m2 dAdd (m2 dAdd (mC (.str "person ")) (m2 dIx (mVal 0) (mVal 5))) (mC (.str " "))) (mCall dStr (mCons (m2 dIx (mVal 1) (mVal 5)) mNil))) (ρ := ρ) (μ := μ)
      (f := fun d => match d with | .int i => .str (row3 pS (l.getD i.toNat Str.empty) (cntS (cs.getD i.toNat 0))) | _ => .non) (ds := rngD 0 l.length) (fun d hd => by
        obtain ⟨i, hi⟩ := List.mem_iff_getElem?.mp hd
        rw [rngD_get] at hi
        split at hi
        · rename_i hil
          cases hi
          have hic : i < cs.length := by rw [h.len]; exact hil
          have na := h.nm l[i] (List.getElem_mem hil)
          have nc := h.cnt cs[i] (List.getElem_mem hic)
          have e1 : ∀ μ, dIx μ (.tup (l.map .str)) (.int (0 + (i : Nat))) = some (.str l[i]) := fun μ => by
            unfold dIx L2.atI ixN
            simp only [List.length_map]
            rw [if_pos (by omega), if_pos (by omega)]
            simp [hil]
          have e2 : ∀ μ, dIx μ (.tup (cs.map .int)) (.int (0 + (i : Nat))) = some (.int cs[i]) := fun μ => by
            unfold dIx L2.atI ixN
            simp only [List.length_map]
            rw [if_pos (by omega), if_pos (by omega)]
            simp [hic]
          obtain ⟨x, y, a1, a2, a3⟩ := add3 μ pS "person " l[i] (cntS cs[i]) (by rw [len7]; omega) (by have := na.most; omega) (by rw [cntS_len nc]; omega) (by decide +kernel)
          have e3 : dStr μ [.int cs[i]] = some (.str (cntS cs[i])) := by simp [dStr, cnt_log nc, cntS]
          refine ⟨_, rfl, rfl, ?_⟩
          have g1 : (ρ.set 5 (.val (.int (0 + (i : Nat)))))[0]? = some (.val (.tup (l.map .str))) := by rw [List.getElem?_set_ne (by decide)]; exact h0
          have g2 : (ρ.set 5 (.val (.int (0 + (i : Nat)))))[1]? = some (.val (.tup (cs.map .int))) := by rw [List.getElem?_set_ne (by decide)]; exact h1
          have g3 : (ρ.set 5 (.val (.int (0 + (i : Nat)))))[5]? = some (.val (.int (0 + (i : Nat)))) := by rw [List.getElem?_set_self (by omega)]
          have hz : ((0 : Int) + (i : Nat)).toNat = i := by omega
          simp only [z_m2, z_C, z_bind_ok, z_Val, g1, g2, g3, isClo_tup, isClo_int, Bool.false_eq_true, if_false, e1, z_opt, a1, a2, z_call, z_cons, z_nil, e2, e3, a3, hz, List.getD_eq_getElem?_getD, List.getElem?_eq_getElem hil, List.getElem?_eq_getElem hic, Option.getD_some]
        · cases hi)
    rw [this]
    have e := rng_map (fun i => .str (row3 pS (l.getD i.toNat Str.empty) (cntS (cs.getD i.toNat 0)))) l.length 0
    rw [e]
    congr 1
    apply List.ext_getElem
    · simp [h.len]
    · intro i h1 h2
      simp only [List.length_map, List.length_range] at h1
      have hic : i < cs.length := by rw [h.len]; exact h1
      have hz : ((0 : Int) + (i : Nat)).toNat = i := by omega
      simp [List.getD_eq_getElem?_getD, h1, hic]
  have c2 : ∀ (w w2 : Str) (hw : w2.length ≤ 10) (h4 : w2.cps.toList = w.cps.toList ++ [32]) (ps : List (Str × Str)) (hp : ∀ p ∈ ps, Nm p.1 ∧ Nm p.2) (ρ : Env'), ρ.length = 8 → compL (tTup 2 (tCons (tName 6) (tCons (tName 7) tNil))) mTrue (m2 dAdd (m2 dAdd (m2 dAdd (mC (.str w2)) (mVal 6)) (mC (.str " "))) (mVal 7)) ρ (ps.map pairD) μ = .ok ((ps.map (fun p => row3 w p.1 p.2)).map .str) μ := fun w w2 hw h4 ps hp ρ hρ => by
    have := compL_map (t := tTup 2 (tCons (tName 6) (tCons (tName 7) tNil))) (c := mTrue) (m := m2 dAdd (m2 dAdd (m2 dAdd (mC (.str w2)) (mVal 6)) (mC (.str " "))) (mVal 7)) (ρ := ρ) (μ := μ)
      (f := fun d => match d with | .tup [.str a, .str c] => .str (row3 w a c) | _ => .non) (ds := ps.map pairD) (fun d hd => by
        obtain ⟨p, hpp, rfl⟩ := List.mem_map.mp hd
        obtain ⟨n1, n2⟩ := hp p hpp
        obtain ⟨x, y, a1, a2, a3⟩ := add3 μ w w2 p.1 p.2 hw (by have := n1.most; omega) (by have := n2.most; omega) h4
        refine ⟨_, rfl, rfl, ?_⟩
        simp [hρ, a1, a2, a3]
        rfl)
    rw [this, List.map_map, List.map_map]
    rfl
  have hm1 := prs_nm h.nm h.yes
  have hm2 := prs_nm h.nm h.no
  have e1 := c1 [Sl.val (.tup (l.map .str)), .val (.tup (cs.map .int)), .val (.tup (ys.map pairD)), .val (.tup (ns.map pairD)), .un, .un, .un, .un] rfl rfl rfl
  have e2 := fun r => c2 mS "met " (by rw [len4]; omega) (by decide +kernel) ys hm1 [Sl.val (.tup (l.map .str)), .val (.tup (cs.map .int)), .val (.tup (ys.map pairD)), .val (.tup (ns.map pairD)), .val r, .un, .un, .un] rfl
  have e3 := fun r => c2 nS "not " (by rw [len4n]; omega) (by decide +kernel) ns hm2 [Sl.val (.tup (l.map .str)), .val (.tup (cs.map .int)), .val (.tup (ys.map pairD)), .val (.tup (ns.map pairD)), .val r, .un, .un, .un] rfl
  have b1 : ys.length ≤ big := small_big hy
  have b2 : ns.length ≤ big := small_big hN
  have b3 : min l.length cs.length + ys.length ≤ big := by have := h.most; unfold big; omega
  have b4 : min l.length cs.length + ys.length + ns.length ≤ big := by have := h.most; unfold big; omega
  simp [m__law_rows, b__law_rows, runF, dLen, hsm, hrl, e1, e2, e3, b1, b2, dAdd, b3, b4, dTuple, rowsOf]
end K85

set_option Elab.async false
set_option linter.all false
set_option maxRecDepth 100000
set_option maxHeartbeats 4000000
namespace K85
open PySem PySem.Spec PyProof.Rows L2 NdefX MP
def Tame : Nat → D → Prop
  | 0, _ => False
  | n + 1, x => (∃ i, x = .int i) ∨ (∃ s, x = .str s ∧ okS s) ∨ ∃ ds : List D, x = .tup ds ∧ ds.length ≤ 1000 ∧ ∀ d ∈ ds, Tame n d
theorem bls_true {α : Type} : ∀ l : List α, blsD (l.map fun _ => D.bl true) = some (l.map fun _ => true)
  | [] => rfl
  | x :: xs => by rw [List.map_cons, blsD, bls_true xs]; rfl
theorem same_ok : ∀ (n : Nat) (x : D), Tame n x → ∀ μ, m__law_same_ n [x, x] μ = .ok (.bl true) μ
  | 0, _, h, _ => h.elim
  | n + 1, x, h, μ => by
    rcases h with ⟨i, rfl⟩ | ⟨s, rfl, hs⟩ | ⟨ds, rfl, hl, hd⟩
    · simp [m__law_same_, b__law_same, runF, dIsi, tyD, isiB, dEq]
    · simp [m__law_same_, b__law_same, runF, dIsi, tyD, isiB, dEq, eqD_str hs hs]
    · have hsm : smallI (ds.length : Nat) = true := by
        simp only [smallI, Bool.and_eq_true, decide_eq_true_eq]
        omega
      have hrl : (rngD 0 ds.length).length ≤ big := by rw [rngD_len]; exact small_big hl
      have hc : compL (tName 3) mTrue (mApp 2 (m__law_same_ n) (mCons (m2 dIx (mVal 0) (mVal 3)) (mCons (m2 dIx (mVal 1) (mVal 3)) mNil))) [Sl.val (.tup ds), .val (.tup ds), .un, .un] (rngD 0 ds.length) μ = .ok ((rngD 0 ds.length).map fun _ => .bl true) μ := by
        refine compL_map fun d hd2 => ?_
        obtain ⟨i, hi⟩ := List.mem_iff_getElem?.mp hd2
        rw [rngD_get] at hi
        split at hi
        · rename_i hil
          cases hi
          have e1 : ∀ μ, dIx μ (.tup ds) (.int (0 + (i : Nat))) = some ds[i] := fun μ => by
            show L2.atI ds (0 + (i : Nat)) = _
            unfold L2.atI ixN
            rw [if_pos (by omega), if_pos (by omega)]
            simp [hil]
          refine ⟨_, rfl, rfl, ?_⟩
          have := same_ok n ds[i] (hd _ (List.getElem_mem hil)) μ
          have e1' := e1 μ
          rw [show ((0 : Int) + (i : Nat)) = (i : Int) by omega] at e1' ⊢
          simp [e1', this]
        · cases hi
      simp [m__law_same_, b__law_same, runF, dIsi, tyD, isiB, dLen, dNe, hsm, hrl, hc, dAll, bls_true]
theorem rise_pw {α : Type} {lt : α → α → Bool} : ∀ {l : List α}, l.Pairwise (fun a b => lt a b = true) → rise lt l
  | [], _ => trivial
  | [_], _ => trivial
  | a :: b :: r, h => ⟨(List.pairwise_cons.mp h).1 b (by simp), rise_pw (List.pairwise_cons.mp h).2⟩
theorem ltS_irr (a : Str) : ltS a a = false := by
  unfold ltS
  exact decide_eq_false (List.lt_irrefl _)
theorem mem_tails : ∀ {l : List Str} {p : Str × Str}, p ∈ tails l → p.1 ∈ l ∧ p.2 ∈ l
  | [], p, h => by simp [tails] at h
  | a :: l, p, h => by
    rw [tails] at h
    rcases List.mem_append.mp h with h | h
    · obtain ⟨b, hb, rfl⟩ := List.mem_map.mp h
      exact ⟨by simp, by simp [hb]⟩
    · obtain ⟨h1, h2⟩ := mem_tails h
      exact ⟨by simp [h1], by simp [h2]⟩
theorem lt_tails : ∀ {l : List Str} {p : Str × Str}, l.Pairwise (fun a b => ltS a b = true) → p ∈ tails l → ltS p.1 p.2 = true
  | [], p, _, h => by simp [tails] at h
  | a :: l, p, hp, h => by
    rw [tails] at h
    obtain ⟨h1, h2⟩ := List.pairwise_cons.mp hp
    rcases List.mem_append.mp h with h | h
    · obtain ⟨b, hb, rfl⟩ := List.mem_map.mp h
      exact h1 b hb
    · exact lt_tails h2 h
theorem pw_tails : ∀ {l : List Str}, l.Pairwise (fun a b => ltS a b = true) → (tails l).Pairwise (fun a b => ltP a b = true)
  | [], _ => by simp [tails]
  | a :: l, hp => by
    rw [tails]
    obtain ⟨h1, h2⟩ := List.pairwise_cons.mp hp
    refine List.pairwise_append.mpr ⟨?_, pw_tails h2, fun x hx y hy => ?_⟩
    · rw [List.pairwise_map]
      refine h2.imp fun {b c} hbc => ?_
      have hne : ¬ b = c := fun z => by rw [z, ltS_irr] at hbc; cases hbc
      simp [ltP, lexL, hne, hbc]
    · obtain ⟨b, hb, rfl⟩ := List.mem_map.mp hx
      have hy1 := (mem_tails hy).1
      have hlt := h1 y.1 hy1
      have hne : ¬ a = y.1 := fun z => by rw [← z, ltS_irr] at hlt; cases hlt
      simp [ltP, lexL, hne, hlt]
theorem prs_sub {l : List Str} (hp : l.Pairwise (fun a b => ltS a b = true)) {ps : List (Str × Str)} (h : ps.Sublist (tails l)) : Prs l ps :=
  ⟨fun p hm => ⟨(mem_tails (h.subset hm)).1, (mem_tails (h.subset hm)).2, lt_tails hp (h.subset hm)⟩, rise_pw ((pw_tails hp).sublist h)⟩
theorem ltP_irr (p : Str × Str) : ltP p p = false := by simp [ltP, lexL]
theorem nd_tails {l : List Str} (hp : l.Pairwise (fun a b => ltS a b = true)) : (tails l).Nodup :=
  (pw_tails hp).imp fun {a b} h z => by rw [z, ltP_irr] at h; cases h
theorem len_tails : ∀ l : List Str, (tails l).length ≤ l.length * l.length
  | [] => Nat.le_refl _
  | a :: l => by
    have := len_tails l
    simp only [tails, List.length_append, List.length_map, List.length_cons]
    rw [Nat.add_mul, Nat.mul_add]
    omega
/-- sorted and without twins: rising -/
theorem sort_up {xs : List Str} (nd : xs.Nodup) : (sortS xs).Pairwise (fun a b => ltS a b = true) := by
  have h1 : (sortS xs).Pairwise (fun a b => leS a b = true) := List.pairwise_mergeSort leS_trans leS_total xs
  have h2 : (sortS xs).Nodup := (List.mergeSort_perm xs leS).nodup_iff.mpr nd
  refine (h1.and h2).imp fun {a b} ⟨h, hne⟩ => ?_
  cases hlt : ltS a b with
  | true => rfl
  | false =>
    have h3 : leS b a = true := by unfold leS; rw [hlt]; rfl
    exact absurd (leS_anti h h3) hne
end K85

set_option Elab.async false
set_option linter.all false
set_option maxRecDepth 100000
set_option maxHeartbeats 4000000
namespace K85
open PySem PySem.Spec PyProof.Rows L2 NdefX MP
structure Names (t : Nat) (names : List Str) : Prop where
  nm : ∀ s ∈ names, Nm s
  nd : names.Nodup
  len : names.length = t
  has : ∀ s ∈ names, ∃ j, j < t ∧ 97 + j ∈ s.cps.toList
theorem abc_at : ∀ t : Nat, t < 26 → abc.cps.toList[t]? = some (97 + t) := by
  have : (List.range 26).all (fun t => abc.cps.toList[t]? == some (97 + t)) = true := by decide +kernel
  intro t ht
  have := List.all_eq_true.mp this t (List.mem_range.mpr ht)
  exact beq_iff_eq.mp this
theorem abc_ix (t : Nat) (ht : t < 26) (μ : Sto) : dIx μ (.str abc) (.int (t : Nat)) = some (.str ⟨#[97 + t]⟩) := by
  have hb : abc.length ≤ big := by rw [abc_len]; decide
  have hl : abc.cps.toList.length = 26 := by rw [← abc_len]; exact Array.length_toList
  have : L2.atI abc.cps.toList (t : Nat) = some (97 + t) := by
    unfold L2.atI ixN
    rw [if_pos (by omega), if_pos (by rw [hl]; omega)]
    exact abc_at t ht
  show (if abc.length ≤ big then (L2.atI abc.cps.toList (t : Nat)).map fun c => D.str ⟨#[c]⟩ else none) = _
  rw [if_pos hb, this]
  rfl
def eight (t : Nat) : Str := repS ⟨#[97 + t]⟩ 8
theorem eight_cps (t : Nat) : (eight t).cps.toList = List.replicate 8 (97 + t) := rfl
theorem eight_len (t : Nat) : (eight t).length = 8 := rfl
theorem eight_nm {t : Nat} (ht : t < 26) : Nm (eight t) := by
  refine ⟨fun c hc => ?_, by rw [eight_len]; omega, by rw [eight_len]; omega, fun hm => ?_⟩
  · rw [eight_cps] at hc
    have := List.eq_of_mem_replicate hc
    omega
  · have : wordsL.all (fun x => decide (x.length ≤ 6)) = true := by decide +kernel
    have := of_decide_eq_true (List.all_eq_true.mp this _ hm)
    rw [eight_len] at this
    omega
theorem eight_new {t : Nat} {names : List Str} (h : Names t names) : eight t ∉ names := fun hm => by
  obtain ⟨j, hj, hc⟩ := h.has _ hm
  rw [eight_cps] at hc
  have := List.eq_of_mem_replicate hc
  omega
theorem eight_mul (t : Nat) (μ : Sto) : dMul μ (.str ⟨#[97 + t]⟩) (.int 8) = some (.str (eight t)) := rfl
def nameBody : Sm := mSeq (mPar 5 6 (mCons (mC (.str "")) (mCons (mApp 2 m__law_of (mCons (mVal 0) (mCons (mTup (mCons (mC (.int 0)) (mCons (mC (.int 0)) (mCons (mC (.int 1)) (mCons (mC (.int 2)) (mCons (mC (.int 3)) (mCons (mC (.int 7)) (mNil)))))))) (mNil)))) (mNil)))) (mSeq (mFor (mRange1 (mCons (mVal 6) (mNil))) (tName 7) (mSet 5 (m2 dAdd (mVal 5) (mApp 2 m__law_of (mCons (mVal 0) (mCons (mVal 2) (mNil))))))) (mSeq (mSet 8 (mApp 2 m__law_draw (mCons (mVal 0) (mCons (m2 dAdd (mVal 6) (mC (.int 1))) (mNil))))) (mSeq (mSet 5 (m2 dAdd (m2 dAdd (mSl (mVal 5) (mNo) (mPart (mVal 8))) (m2 dIx (mVal 2) (mVal 4))) (mSl (mVal 5) (mPart (mVal 8)) (mNo)))) (mDo (mAppend (mIsLoc (mVal 3)) (mIfE (mOr (mB (m2 dIn (mVal 5) (mVal 3))) (mB (m2 dIn (mVal 5) (mApp0 m__law_words)))) (m2 dMul (m2 dIx (mVal 2) (mVal 4)) (mC (.int 8))) (mVal 5)))))))
theorem turn_ok {n f t : Nat} (ht : t < 26) {names : List Str} (hq : Names t names) {μ : Sto} (hw : Well n μ) (hf : μ[f]? = some (.lst (names.map .str))) (hnf : n ≠ f) (vm x5 x6 x7 x8 : Sl) :
    ∃ (s : Str) (μ2 : Sto) (y5 y6 y7 y8 : Sl), nameBody [.val (.loc n), vm, .val (.str abc), .val (.loc f), .val (.int (t : Nat)), x5, x6, x7, x8] μ = .nx [.val (.loc n), vm, .val (.str abc), .val (.loc f), .val (.int (t : Nat)), y5, y6, y7, y8] μ2 ∧
      Well n μ2 ∧ μ2[f]? = some (.lst ((names ++ [s]).map .str)) ∧ μ2.length = μ.length ∧ (∀ i, i < μ.length → i ≠ n → i ≠ f → μ2[i]? = μ[i]?) ∧ Names (t + 1) (names ++ [s]) := by
  have hfl : f < μ.length := (List.getElem?_eq_some_iff.mp hf).1
  obtain ⟨d, μ1, e1, p1, l1, hd⟩ := of_tup2 hw (xs := [.int 0, .int 0, .int 1, .int 2, .int 3, .int 7]) (by decide) (by decide)
  obtain ⟨z, rfl, hz7⟩ : ∃ z : Nat, d = .int (z : Nat) ∧ z ≤ 7 := by
    simp only [List.mem_cons, List.not_mem_nil, or_false] at hd
    rcases hd with rfl | rfl | rfl | rfl | rfl | rfl
    · exact ⟨0, rfl, by omega⟩
    · exact ⟨0, rfl, by omega⟩
    · exact ⟨1, rfl, by omega⟩
    · exact ⟨2, rfl, by omega⟩
    · exact ⟨3, rfl, by omega⟩
    · exact ⟨7, rfl, by omega⟩
  have empty0 : (PySem.Str.ofString "").length = 0 := by decide +kernel
  have emptyl : lets (PySem.Str.ofString "") := by
    intro c hc
    have : (PySem.Str.ofString "").cps.toList = [] := by decide +kernel
    rw [this] at hc
    cases hc
  obtain ⟨nm0, μ2, vl, e2, p2, l2, hlet, hlen⟩ := name_loop (vn := .val (.loc n)) (vm := vm) (vf := .val (.loc f)) (vt := .val (.int (t : Nat))) (vs := .val (.int (z : Nat))) (va := x8) rfl z 0 (PySem.Str.ofString "") μ1 x7 p1.well emptyl (by rw [empty0]; omega)
  rw [empty0, Nat.zero_add] at hlen
  obtain ⟨r, μ3, e3, p3, l3, r0, r1⟩ := draw2 p2.well (lim := (z : Int) + 1) (by omega) (by omega)
  obtain ⟨a, rfl⟩ : ∃ a : Nat, r = (a : Nat) := ⟨r.toNat, by omega⟩
  have ha : a ≤ z := by omega
  let nm1 : Str := cutS nm0 none (some (a : Nat)) ++ ⟨#[97 + t]⟩ ++ cutS nm0 (some (a : Nat)) none
  have cps1 : nm1.cps.toList = nm0.cps.toList.take a ++ [97 + t] ++ nm0.cps.toList.drop a := by
    show (cutS nm0 none (some (a : Nat)) ++ ⟨#[97 + t]⟩ ++ cutS nm0 (some (a : Nat)) none).cps.toList = _
    rw [app_list, app_list, cutS_take, cutS_drop]
  have lets1 : lets nm1 := fun c hc => by
    rw [cps1] at hc
    rcases List.mem_append.mp hc with hc | hc
    · rcases List.mem_append.mp hc with hc | hc
      · exact hlet c (List.mem_of_mem_take hc)
      · rw [List.mem_singleton.mp hc]; omega
    · exact hlet c (List.mem_of_mem_drop hc)
  have len0 : nm0.cps.toList.length = z := by rw [← hlen]; exact Array.length_toList
  have len1 : nm1.length = z + 1 := by
    have : nm1.length = nm1.cps.toList.length := (Array.length_toList).symm
    rw [this, cps1]
    simp only [List.length_append, List.length_take, List.length_drop, List.length_singleton, len0]
    omega
  have has1 : 97 + t ∈ nm1.cps.toList := by rw [cps1]; simp
  have same3 : ∀ i, i < μ.length → i ≠ n → μ3[i]? = μ[i]? := ((p1.trans p2).trans p3).same
  have hf3 : μ3[f]? = some (.lst (names.map .str)) := by rw [same3 f hfl (Ne.symm hnf)]; exact hf
  have nok : ∀ x ∈ names, okS x := fun x hx => (hq.nm x hx).ok
  have in1 : inD μ3 (.str nm1) (.loc f) = some (decide (nm1 ∈ names)) := inD_locS hf3 (lets_ok lets1) nok
  have in2 : inD μ3 (.str nm1) (.lst (wordsL.map .str)) = some (decide (nm1 ∈ wordsL)) := inD_lstS (lets_ok lets1) words_ok
  have hb0 : nm0.length ≤ big := small_big (by omega)
  have l1' : (cutS nm0 none (some (a : Int))).length = a := by
    rw [cutS_take]
    show (nm0.cps.toList.take a).toArray.size = a
    simp only [List.size_toArray, List.length_take, len0]
    omega
  have l2' : (cutS nm0 (some (a : Int)) none).length = z - a := by
    rw [cutS_drop]
    show (nm0.cps.toList.drop a).toArray.size = z - a
    simp only [List.size_toArray, List.length_drop, len0]
  have one1 : (⟨#[97 + t]⟩ : Str).length = 1 := rfl
  have ad1 : ∀ μ, dAdd μ (.str (cutS nm0 none (some (a : Int)))) (.str ⟨#[97 + t]⟩) = some (.str (cutS nm0 none (some (a : Int)) ++ ⟨#[97 + t]⟩)) := fun μ => by
    show (if _ ≤ big then some _ else none) = _
    rw [if_pos (by rw [l1', one1]; exact small_big (by omega))]
  have ad2 : ∀ μ, dAdd μ (.str (cutS nm0 none (some (a : Int)) ++ ⟨#[97 + t]⟩)) (.str (cutS nm0 (some (a : Int)) none)) = some (.str nm1) := fun μ => by
    show (if _ ≤ big then some _ else none) = _
    rw [if_pos (by rw [app_len, l1', l2', one1]; exact small_big (by omega))]
  have nl : names.length < big := by rw [hq.len]; unfold big; omega
  have hw3 := p3.well
  let s : Str := if nm1 ∈ names ∨ nm1 ∈ wordsL then eight t else nm1
  have names2 : Names (t + 1) (names ++ [s]) := by
    have snew : s ∉ names := by
      show (if nm1 ∈ names ∨ nm1 ∈ wordsL then eight t else nm1) ∉ names
      split
      · exact eight_new hq
      · rename_i hno
        exact fun z => hno (.inl z)
    have snm : Nm s := by
      show Nm (if nm1 ∈ names ∨ nm1 ∈ wordsL then eight t else nm1)
      split
      · exact eight_nm ht
      · rename_i hno
        exact ⟨lets1, by rw [len1]; omega, by rw [len1]; omega, fun z => hno (.inr z)⟩
    have shas : 97 + t ∈ s.cps.toList := by
      show 97 + t ∈ (if nm1 ∈ names ∨ nm1 ∈ wordsL then eight t else nm1).cps.toList
      split
      · rw [eight_cps]; simp
      · exact has1
    refine ⟨fun x hx => ?_, ?_, by rw [List.length_append, hq.len]; rfl, fun x hx => ?_⟩
    · rcases List.mem_append.mp hx with hx | hx
      · exact hq.nm x hx
      · rw [List.mem_singleton.mp hx]; exact snm
    · refine List.nodup_append.mpr ⟨hq.nd, by simp, fun x hx y hy => ?_⟩
      rw [List.mem_singleton.mp hy]
      exact fun z => snew (z ▸ hx)
    · rcases List.mem_append.mp hx with hx | hx
      · obtain ⟨j, hj, hc⟩ := hq.has x hx
        exact ⟨j, by omega, hc⟩
      · rw [List.mem_singleton.mp hx]; exact ⟨t, by omega, shas⟩
  have hf3l : f < μ3.length := (List.getElem?_eq_some_iff.mp hf3).1
  have hsm : smallI (z : Nat) = true := by
    simp only [smallI, Bool.and_eq_true, decide_eq_true_eq]
    omega
  have h6 : (6 : Nat) ≤ big := by decide
  have lenE : μ3.length = μ.length := by rw [l3, l2, l1]
  refine ⟨s, μ3.set f (.lst ((names ++ [s]).map .str)), .val (.str nm1), .val (.int (z : Nat)), vl, .val (.int (a : Nat)), ?_, ?_, by rw [List.getElem?_set_self hf3l], by rw [List.length_set]; exact lenE, fun i hi h1 h2 => by rw [List.getElem?_set_ne (Ne.symm h2)]; exact same3 i hi h1, names2⟩
  · have abc3 := abc_ix t ht
    have dz : ∀ μ, dAdd μ (.int (z : Nat)) (.int 1) = some (.int ((z : Int) + 1)) := fun _ => rfl
    have hs : (if (nm1 ∈ names ∨ nm1 ∈ wordsL) then eight t else nm1) = s := rfl
    by_cases c1 : nm1 ∈ names
    · have hs2 : s = eight t := by rw [← hs, if_pos (.inl c1)]
      rw [hs2]
      simp [nameBody, h6, e1, hsm, e2, dz, e3, dSl, hb0, ad1, ad2, abc3, hf3, in1, c1, dIn, eight_mul, nl]
    · by_cases c2 : nm1 ∈ wordsL
      · have hs2 : s = eight t := by rw [← hs, if_pos (.inr c2)]
        rw [hs2]
        simp [nameBody, h6, e1, hsm, e2, dz, e3, dSl, hb0, ad1, ad2, abc3, hf3, in1, in2, law_words, c1, c2, dIn, eight_mul, nl]
      · have hs2 : s = nm1 := by rw [← hs, if_neg (fun h => h.elim c1 c2)]
        rw [hs2]
        simp [nameBody, h6, e1, hsm, e2, dz, e3, dSl, hb0, ad1, ad2, abc3, hf3, in1, in2, law_words, c1, c2, dIn, nl]
  · obtain ⟨a0, b0, c0, h0⟩ := hw3
    exact ⟨a0, b0, c0, by rw [List.getElem?_set_ne (Ne.symm hnf)]; exact h0⟩
end K85

set_option Elab.async false
set_option linter.all false
set_option maxRecDepth 100000
set_option maxHeartbeats 4000000
namespace K85
open PySem PySem.Spec PyProof.Rows L2 NdefX MP
theorem turns {n f : Nat} (hnf : n ≠ f) (vm : Sl) : ∀ (k t : Nat) (names : List Str) (μ : Sto) (x4 x5 x6 x7 x8 : Sl), t + k ≤ 26 → Names t names → Well n μ → μ[f]? = some (.lst (names.map .str)) →
    ∃ (names' : List Str) (μ' : Sto) (y4 y5 y6 y7 y8 : Sl), loop (tName 4) nameBody (rngD (t : Nat) k) [.val (.loc n), vm, .val (.str abc), .val (.loc f), x4, x5, x6, x7, x8] μ = .nx [.val (.loc n), vm, .val (.str abc), .val (.loc f), y4, y5, y6, y7, y8] μ' ∧
      Well n μ' ∧ μ'[f]? = some (.lst (names'.map .str)) ∧ μ'.length = μ.length ∧ (∀ i, i < μ.length → i ≠ n → i ≠ f → μ'[i]? = μ[i]?) ∧ Names (t + k) names'
  | 0, t, names, μ, x4, x5, x6, x7, x8, _, hq, hw, hf => ⟨names, μ, x4, x5, x6, x7, x8, rfl, hw, hf, rfl, fun _ _ _ _ => rfl, hq⟩
  | k + 1, t, names, μ, x4, x5, x6, x7, x8, ht, hq, hw, hf => by
    obtain ⟨s, μ2, y5, y6, y7, y8, e, w2, f2, l2, s2, q2⟩ := turn_ok (by omega) hq hw hf hnf vm x5 x6 x7 x8
    obtain ⟨nm', μ', z4, z5, z6, z7, z8, e', w', f', l', s', q'⟩ := turns hnf vm k (t + 1) (names ++ [s]) μ2 (.val (.int (t : Nat))) y5 y6 y7 y8 (by omega) q2 w2 f2
    refine ⟨nm', μ', z4, z5, z6, z7, z8, ?_, w', f', l'.trans l2, fun i hi h1 h2 => (s' i (by rw [l2]; exact hi) h1 h2).trans (s2 i hi h1 h2), by rw [show t + (k + 1) = t + 1 + k by omega]; exact q'⟩
    rw [rngD, z_loop]
    simp only [z_tName, List.set_cons_succ, List.set_cons_zero, e]
    exact e'
end K85

set_option Elab.async false
set_option linter.all false
set_option maxRecDepth 100000
set_option maxHeartbeats 4000000
namespace K85
open PySem PySem.Spec PyProof.Rows L2 NdefX MP
theorem law_names_ok {n : Nat} {μ : Sto} (hw : Well n μ) {many : Nat} (h1 : 1 ≤ many) (h8 : many ≤ 8) :
    ∃ (l : List Str) (μ' : Sto), m__law_names [.loc n, .int (many : Nat)] μ = .ok (.tup (l.map .str)) μ' ∧ Pre n μ μ' ∧ l.length = many ∧ (∀ s ∈ l, Nm s) ∧ l.Pairwise (fun a b => ltS a b = true) := by
  have hn : n < μ.length := by obtain ⟨a, b, c, h⟩ := hw; exact (List.getElem?_eq_some_iff.mp h).1
  have hf : (μ ++ [Ob.lst []])[μ.length]? = some (.lst (([] : List Str).map .str)) := by simp
  obtain ⟨nm, μ', y4, y5, y6, y7, y8, e, w', f', l', s', q'⟩ := turns (n := n) (f := μ.length) (by omega) (.val (.int (many : Nat))) many 0 [] (μ ++ [.lst []]) .un .un .un .un .un (by omega) ⟨fun _ h => by simp at h, by simp, rfl, fun _ h => by simp at h⟩ (pre_app hw _).well hf
  rw [Nat.zero_add] at q'
  have hsm : smallI (many : Nat) = true := by
    simp only [smallI, Bool.and_eq_true, decide_eq_true_eq]
    omega
  have h0 : (0 : Nat) ≤ big := Nat.zero_le _
  have hl64 : nm.length < 64 := by rw [q'.len]; omega
  have hp := List.mergeSort_perm nm leS
  refine ⟨sortS nm, μ', ?_, ⟨w', by rw [l', List.length_append]; omega, fun i hi hne => ?_⟩, ?_, fun s hs => q'.nm s (hp.mem_iff.mp hs), sort_up q'.nd⟩
  · have e' : loop (tName 4) nameBody (rngD 0 many) [.val (.loc n), .val (.int (many : Nat)), .val (.str abc), .val (.loc μ.length), .un, .un, .un, .un, .un] (μ ++ [.lst []]) = _ := e
    unfold nameBody abc at e'
    simp [m__law_names, b__law_names, runF, h0, hsm, e', dSorted, f', strsD_map, hl64, dTuple]
  · rw [s' i (by rw [List.length_append]; omega) hne (by omega)]
    exact List.getElem?_append_left hi
  · show (nm.mergeSort leS).length = many
    rw [List.length_mergeSort, q'.len]
end K85

set_option Elab.async false
set_option linter.all false
set_option maxRecDepth 100000
set_option maxHeartbeats 4000000
namespace K85
open PySem PySem.Spec PyProof.Rows L2 NdefX MP
theorem small_lt {x : Int} (h0 : 0 ≤ x) (h1 : x < 2147483587) : MP.small64 x = true := by
  simp only [MP.small64, Bool.and_eq_true, decide_eq_true_eq]
  omega
theorem s48271 : MP.small64 48271 = true := by decide +kernel
theorem s53 : MP.small64 53 = true := by decide +kernel
theorem s6121 : MP.small64 6121 = true := by decide +kernel
theorem well_loop : ∀ (cs : List Int) (s : Int) (a b x y : Sl) (μ : Sto), ∃ (s' : Int) (x' : Sl), loop (tName 3) (mSet 2 (m2 dMod (mCall dInt (mCons (m2 dAdd (m2 dAdd (m2 dMul (mVal 2) (mC (.int 48271))) (m2 dMod (mCall dInt (mCons (mVal 3) (mNil))) (mC (.int 2147483549)))) (mC (.int 23))) (mNil))) (mC (.int 2147483587)))) (cs.map .int) [a, b, .val (.int s), x, y] μ = .nx [a, b, .val (.int s'), x', y] μ
  | [], s, a, b, x, y, μ => ⟨s, x, rfl⟩
  | c :: cs, s, a, b, x, y, μ => by
    obtain ⟨s', x', e⟩ := well_loop cs ((s * 48271 + c % 2147483549 + 23) % 2147483587) a b (.val (.int c)) y μ
    refine ⟨s', x', ?_⟩
    rw [List.map_cons, z_loop]
    simp [dMul, s48271, dInt, dMod, dAdd, e]
theorem law_well_ok {ns : List Int} {lap : Nat} (h63 : ns.length ≤ 63) (hl : lap ≤ 100) (μ : Sto) : ∃ (a b : Int), m__law_well [.scr ns, .int (lap : Nat)] μ = .ok (.loc μ.length) (μ ++ [.lst [.int a, .int b, .int 0]]) := by
  obtain ⟨s', x', e⟩ := well_loop (cut ns none (some 16)) (704969 + 6121 * (lap : Nat)) (.val (.scr ns)) (.val (.int (lap : Nat))) .un .un μ
  have h3 : (3 : Nat) ≤ big := by decide
  have h15 : ((10 : Int) ^ 15).natAbs = 1000000000000000 := by decide +kernel
  have hp : dPow μ (.int 10) (.int 15) = some (.int 1000000000000000) := by simp [dPow]
  by_cases hlt : (lap : Int) < ns.length
  · have hlt2 : lap < ns.length := by omega
    have hix : dIx μ (.scr ns) (.int (lap : Nat)) = some (.int ns[lap]) := by
      show (L2.atI ns (lap : Nat)).map D.int = _
      unfold L2.atI ixN
      rw [if_pos (by omega), if_pos hlt]
      simp [hlt2]
    refine ⟨if ns[lap] < 0 ∨ 1000000000000000 ≤ ns[lap] then (if ns[lap] < 0 then -ns[lap] else ns[lap]) else 0, (s' * 53 + ns[lap] % 2147483549 * 15013 + 11) % 2147483587, ?_⟩
    by_cases c1 : ns[lap] < 0
    · simp [m__law_well, b__law_well, runF, dAdd, dMul, s6121, dSl, e, dLt, dLen, hlt, hix, dInt, s53, s15013, dMod, c1, dAbs, h3]
    · by_cases c2 : (1000000000000000 : Int) ≤ ns[lap]
      · simp [m__law_well, b__law_well, runF, dAdd, dMul, s6121, dSl, e, dLt, dLen, hlt, hix, dInt, s53, s15013, dMod, c1, hp, dGe, c2, dAbs, h3]
      · simp [m__law_well, b__law_well, runF, dAdd, dMul, s6121, dSl, e, dLt, dLen, hlt, hix, dInt, s53, s15013, dMod, c1, hp, dGe, c2, h3]
  · refine ⟨0, (s' * 53 + 11) % 2147483587, ?_⟩
    simp [m__law_well, b__law_well, runF, dAdd, dMul, s6121, dSl, e, dLt, dLen, hlt, s53, s15013, dInt, dMod, hp, dGe, h3]
end K85

set_option Elab.async false
set_option linter.all false
set_option maxRecDepth 100000
set_option maxHeartbeats 4000000
namespace K85
open PySem PySem.Spec PyProof.Rows L2 NdefX MP
/-- counts drawn -/
theorem counts_ok {n : Nat} {ρ : Env'} (h0 : ρ[0]? = some (.val (.loc n))) (hρ : 7 < ρ.length) : ∀ (l : List D) (μ : Sto), Well n μ →
    ∃ (cs : List Int) (μ' : Sto), compL (tName 7) mTrue (mApp 2 m__law_draw (mCons (mVal 0) (mCons (mC (.int 8)) mNil))) ρ l μ = .ok (cs.map .int) μ' ∧ Pre n μ μ' ∧ cs.length = l.length ∧ ∀ c ∈ cs, 0 ≤ c ∧ c ≤ 7
  | [], μ, hw => ⟨[], μ, rfl, .refl hw, rfl, fun c hc => by simp at hc⟩
  | x :: l, μ, hw => by
    obtain ⟨r, μ1, e, hp, _, r0, r1⟩ := draw2 hw (lim := 8) (by decide) (by decide)
    obtain ⟨cs, μ', e2, hp2, hl, hc⟩ := counts_ok h0 hρ l μ1 hp.well
    have h0' : (ρ.set 7 (.val x))[0]? = some (.val (.loc n)) := by rw [List.getElem?_set_ne (by decide)]; exact h0
    refine ⟨r :: cs, μ', ?_, hp.trans hp2, by simp [hl], fun c hc' => ?_⟩
    · rw [z_compL]
      simp [h0', e, e2]
    · rcases List.mem_cons.mp hc' with rfl | h
      · omega
      · exact hc c h
theorem tame_str {s : Str} (h : okS s) {n : Nat} : Tame (n + 1) (.str s) := .inr (.inl ⟨s, rfl, h⟩)
theorem tame_int {i : Int} {n : Nat} : Tame (n + 1) (.int i) := .inl ⟨i, rfl⟩
theorem tame_tup {ds : List D} {n : Nat} (hl : ds.length ≤ 1000) (h : ∀ d ∈ ds, Tame n d) : Tame (n + 1) (.tup ds) := .inr (.inr ⟨ds, rfl, hl, h⟩)
theorem tame_strs {l : List Str} {n : Nat} (hl : l.length ≤ 1000) (h : ∀ s ∈ l, okS s) : Tame (n + 2) (.tup (l.map .str)) :=
  tame_tup (by simpa using hl) fun d hd => by obtain ⟨s, hs, rfl⟩ := List.mem_map.mp hd; exact tame_str (h s hs)
theorem tame_ints {l : List Int} {n : Nat} (hl : l.length ≤ 1000) : Tame (n + 2) (.tup (l.map .int)) :=
  tame_tup (by simpa using hl) fun d hd => by obtain ⟨s, hs, rfl⟩ := List.mem_map.mp hd; exact tame_int
theorem tame_pairs {l : List (Str × Str)} {n : Nat} (hl : l.length ≤ 1000) (h : ∀ p ∈ l, okS p.1 ∧ okS p.2) : Tame (n + 3) (.tup (l.map pairD)) :=
  tame_tup (by simpa using hl) fun d hd => by
    obtain ⟨p, hp, rfl⟩ := List.mem_map.mp hd
    refine tame_tup (by simp) fun d hd => ?_
    simp only [List.mem_cons, List.not_mem_nil, or_false] at hd
    rcases hd with rfl | rfl
    · exact tame_str (h p hp).1
    · exact tame_str (h p hp).2
theorem told_prs_ok {l : List Str} {cs : List Int} {ys ns : List (Str × Str)} (h : Told l cs ys ns) : (∀ p ∈ ys, okS p.1 ∧ okS p.2) ∧ ∀ p ∈ ns, okS p.1 ∧ okS p.2 :=
  ⟨fun p hp => ⟨(prs_nm h.nm h.yes p hp).1.ok, (prs_nm h.nm h.yes p hp).2.ok⟩, fun p hp => ⟨(prs_nm h.nm h.no p hp).1.ok, (prs_nm h.nm h.no p hp).2.ok⟩⟩
theorem same8 (x : D) (h : Tame 8 x) (μ : Sto) : m__law_same [x, x] μ = .ok (.bl true) μ := same_ok 8 x h μ
def rightTail : Sm := mSeq (mSet 6 (mApp 4 m__law_rows (mCons (mVal 1) (mCons (mVal 2) (mCons (mVal 4) (mCons (mVal 5) (mNil))))))) (mSeq (mIf (mNot (mB (mApp 2 m__law_same (mCons (mTup (mCons (mApp 4 m_told_rows (mCons (mVal 1) (mCons (mVal 2) (mCons (mVal 4) (mCons (mVal 5) (mNil)))))) (mCons (mAppK 0 4 [3, 2, 1, 0] m_told_rows mNil (mCons (mVal 5) (mCons (mVal 4) (mCons (mVal 2) (mCons (mVal 1) (mNil)))))) (mNil)))) (mCons (mTup (mCons (mVal 6) (mCons (mVal 6) (mNil)))) (mNil)))))) (mRet (mC (.bl false))) (mSkip)) (mRet (mApp 2 m__law_same (mCons (mTup (mCons (mApp 1 m_read_told (mCons (mVal 6) (mNil))) (mCons (mAppK 0 1 [0] m_read_told mNil (mCons (mVal 6) (mNil))) (mNil)))) (mCons (m2 dMul (mTup (mCons (mTup (mCons (mVal 1) (mCons (mVal 2) (mCons (mVal 4) (mCons (mVal 5) (mNil)))))) (mNil))) (mC (.int 2))) (mNil))))))
theorem right_eq : b__law_right = mSeq (mSet 1 (mApp 2 m__law_names (mCons (mVal 0) (mCons (m2 dAdd (mC (.int 1)) (mApp 2 m__law_draw (mCons (mVal 0) (mCons (mC (.int 8)) (mNil))))) (mNil))))) (mSeq (mPar 2 3 (mCons (mCall dTuple (mCons (mComp (mIt (mVal 1)) [7] (tName 7) (mTrue) (mApp 2 m__law_draw (mCons (mVal 0) (mCons (mC (.int 8)) (mNil))))) (mNil))) (mCons (mApp 2 m__law_two_rows (mCons (mVal 0) (mCons (mVal 1) (mNil)))) (mNil)))) (mSeq (mAsg (mIfE (mB (m2 dGt (mApp 2 m__law_draw (mCons (mVal 0) (mCons (mC (.int 4)) (mNil)))) (mC (.int 0)))) (mVal 3) (mTup (mCons (mTup (mNil)) (mCons (mTup (mNil)) (mNil))))) (uTup 2 (uCons (uName 4) (uCons (uName 5) (uNil))))) rightTail)) := rfl
theorem law_right_ok {n : Nat} {μ : Sto} (hw : Well n μ) : ∃ μ', m__law_right [.loc n] μ = .ok (.bl true) μ' ∧ Pre n μ μ' := by
  obtain ⟨r, μ1, e1, p1, _, r0, r1⟩ := draw2 hw (lim := 8) (by decide) (by decide)
  obtain ⟨k, hk⟩ : ∃ k : Nat, (1 + r) = (k : Nat) := ⟨(1 + r).toNat, by omega⟩
  obtain ⟨l, μ2, e2, p2, hl, hnm, hup⟩ := law_names_ok p1.well (many := k) (by omega) (by omega)
  have hl8 : l.length ≤ 8 := by omega
  have hl1 : 1 ≤ l.length := by omega
  obtain ⟨cs, μ3, e3, p3, hcl, hcs⟩ := counts_ok (n := n) (ρ := [.val (.loc n), .val (.tup (l.map .str)), .un, .un, .un, .un, .un, .un]) rfl (by simp) (l.map .str) μ2 p2.well
  rw [List.length_map] at hcl
  have ht : (tails l).length ≤ 1000 := by
    have := len_tails l
    have h2 : l.length * l.length ≤ 8 * 8 := Nat.mul_le_mul hl8 hl8
    omega
  obtain ⟨ys, ns, μ4, e4, p4, hys, hns, hap⟩ := two_rows_ok (n := n) hl8 (nd_tails hup) p3.well ht
  obtain ⟨w, μ5, e5, p5, _, w0, w1⟩ := draw2 p4.well (lim := 4) (by decide) (by decide)
  have hlb : l.length ≤ big := small_big (by omega)
  have hcb : cs.length ≤ big := by rw [hcl]; exact hlb
  have hy : ys.length ≤ 1000 := Nat.le_trans hys.length_le ht
  have hn : ns.length ≤ 1000 := Nat.le_trans hns.length_le ht
  -- the choice
  have key : ∀ (ys ns : List (Str × Str)), Told l cs ys ns → ys.length ≤ 64 → ns.length ≤ 64 →
      ∀ (x3 x7 : Sl), rightTail [.val (.loc n), .val (.tup (l.map .str)), .val (.tup (cs.map .int)), x3, .val (.tup (ys.map pairD)), .val (.tup (ns.map pairD)), .un, x7] μ5 = .rt (.bl true) μ5 := fun ys ns hT hy hn x3 x7 => by
    have ok1 : ∀ s ∈ l, okS s := fun s hs => (hnm s hs).ok
    obtain ⟨oy, on⟩ := told_prs_ok hT
    have hrl : (rowsOf l cs ys ns).length ≤ 1000 := by
      rw [rows_ents, List.length_map]
      simp only [entsOf, List.length_append, List.length_map, List.length_zip]
      omega
    have rok : ∀ s ∈ rowsOf l cs ys ns, okS s := by rw [rows_ents]; exact rows_okS (ents_ok hT)
    have b2 : (2 : Nat) ≤ big := by decide
    have b1 : (1 : Nat) ≤ big := by decide
    have b4 : (4 : Nat) ≤ big := by decide
    have two : ∀ (d : D) (k : Nat), Tame k d → ∀ x ∈ [d, d], Tame k x := fun d k h x hx => by
      simp only [List.mem_cons, List.not_mem_nil, or_false, or_self] at hx
      rw [hx]; exact h
    have s1 := same8 _ (tame_tup (n := 7) (ds := [.tup ((rowsOf l cs ys ns).map .str), .tup ((rowsOf l cs ys ns).map .str)]) (by simp) (two _ _ (tame_strs hrl rok))) μ5
    have tq : Tame 7 (.tup [.tup (l.map .str), .tup (cs.map .int), .tup (ys.map pairD), .tup (ns.map pairD)]) := tame_tup (by simp) fun d hd => by
      simp only [List.mem_cons, List.not_mem_nil, or_false] at hd
      rcases hd with rfl | rfl | rfl | rfl
      · exact tame_strs (by omega) ok1
      · exact tame_ints (by omega)
      · exact tame_pairs (by omega) oy
      · exact tame_pairs (by omega) on
    have s2 := same8 _ (tame_tup (n := 7) (ds := [.tup [.tup (l.map .str), .tup (cs.map .int), .tup (ys.map pairD), .tup (ns.map pairD)], .tup [.tup (l.map .str), .tup (cs.map .int), .tup (ys.map pairD), .tup (ns.map pairD)]]) (by simp) (two _ _ tq)) μ5
    have dm : dMul μ5 (.tup [.tup [.tup (l.map .str), .tup (cs.map .int), .tup (ys.map pairD), .tup (ns.map pairD)]]) (.int 2) = some (.tup [.tup [.tup (l.map .str), .tup (cs.map .int), .tup (ys.map pairD), .tup (ns.map pairD)], .tup [.tup (l.map .str), .tup (cs.map .int), .tup (ys.map pairD), .tup (ns.map pairD)]]) := rfl
    simp [rightTail, law_rows_ok hT (by omega) (by omega), told_rows_ok hT (by omega) (by omega), read_told_ok hT (by omega) (by omega), pick, s1, s2, dm, b1, b2, b4]
  have hrs : rise ltS l := rise_pw hup
  have t64 : (tails l).length ≤ 64 := by
    have := len_tails l
    have h2 : l.length * l.length ≤ 8 * 8 := Nat.mul_le_mul hl8 hl8
    omega
  have z0 : (0 : Nat) ≤ big := Nat.zero_le _
  have z2 : (2 : Nat) ≤ big := by decide
  have one : ((1 : Int) + r) = (k : Nat) := hk
  by_cases hw0 : (0 : Int) < w
  · have hT : Told l cs ys ns := ⟨hnm, hl1, hl8, hrs, hcl, hcs, prs_sub hup hys, prs_sub hup hns, hap⟩
    have kk := key ys ns hT (Nat.le_trans hys.length_le t64) (Nat.le_trans hns.length_le t64) (.val (.tup [.tup (ys.map pairD), .tup (ns.map pairD)])) .un
    refine ⟨μ5, ?_, ((((p1.trans p2).trans p3).trans p4).trans p5)⟩
    simp [m__law_right, right_eq, runF, e1, dAdd, one, e2, hlb, e3, dTuple, e4, e5, dGt, hw0, hcb, kk]
  · have hT : Told l cs [] [] := ⟨hnm, hl1, hl8, hrs, hcl, hcs, prs_sub hup (List.nil_sublist _), prs_sub hup (List.nil_sublist _), fun _ h => by simp at h⟩
    have kk := key [] [] hT (by simp) (by simp) (.val (.tup [.tup (ys.map pairD), .tup (ns.map pairD)])) .un
    refine ⟨μ5, ?_, ((((p1.trans p2).trans p3).trans p4).trans p5)⟩
    simp at kk
    simp [m__law_right, right_eq, runF, e1, dAdd, one, e2, hlb, e3, dTuple, e4, e5, dGt, hw0, hcb, z0, z2, kk]
end K85

set_option Elab.async false
set_option linter.all false
set_option maxRecDepth 100000
set_option maxHeartbeats 4000000
namespace K85
open PySem PySem.Spec PyProof.Rows L2 NdefX MP
/-- the wells -/
theorem wells_ok {ns : List Int} (h63 : ns.length ≤ 63) {ρ : Env'} (h0 : ρ[0]? = some (.val (.scr ns))) (hρ : 2 < ρ.length) : ∀ (k lo : Nat) (μ : Sto), lo + k ≤ 3 →
    ∃ (ws : List Nat) (μ' : Sto), compL (tName 2) mTrue (mApp 2 m__law_well (mCons (mVal 0) (mCons (mVal 2) mNil))) ρ (rngD (lo : Nat) k) μ = .ok (ws.map .loc) μ' ∧ ws.length = k ∧ (∀ w ∈ ws, Well w μ') ∧ μ.length ≤ μ'.length ∧ (∀ i, i < μ.length → μ'[i]? = μ[i]?)
  | 0, lo, μ, _ => ⟨[], μ, rfl, rfl, fun w h => by simp at h, Nat.le_refl _, fun _ _ => rfl⟩
  | k + 1, lo, μ, hk => by
    obtain ⟨a, b, e⟩ := law_well_ok h63 (lap := lo) (by omega) μ
    obtain ⟨ws, μ', e2, hl, hw, hle, hs⟩ := wells_ok h63 h0 hρ k (lo + 1) (μ ++ [.lst [.int a, .int b, .int 0]]) (by omega)
    have h0' : (ρ.set 2 (.val (.int (lo : Nat))))[0]? = some (.val (.scr ns)) := by rw [List.getElem?_set_ne (by decide)]; exact h0
    refine ⟨μ.length :: ws, μ', ?_, by simp [hl], fun w hw' => ?_, by rw [List.length_append] at hle; omega, fun i hi => ?_⟩
    · rw [rngD, z_compL]
      have e2' : compL (tName 2) mTrue (mApp 2 m__law_well (mCons (mVal 0) (mCons (mVal 2) mNil))) ρ (rngD ((lo : Int) + 1) k) (μ ++ [.lst [.int a, .int b, .int 0]]) = _ := e2
      simp [h0', hρ, e, e2']
    · rcases List.mem_cons.mp hw' with rfl | h
      · exact ⟨a, b, 0, by rw [hs μ.length (by simp)]; simp⟩
      · exact hw w h
    · rw [hs i (by rw [List.length_append]; omega)]
      exact List.getElem?_append_left hi
theorem Well.pre {n m : Nat} {μ μ' : Sto} (h : Well m μ) (p : Pre n μ μ') : Well m μ' := by
  by_cases e : m = n
  · rw [e]; exact p.well
  · obtain ⟨a, b, c, h0⟩ := h
    exact ⟨a, b, c, by rw [p.same m (List.getElem?_eq_some_iff.mp h0).1 e]; exact h0⟩
theorem rights_ok {ws : List Nat} (h1 : 1 ≤ ws.length) (h3 : ws.length ≤ 3) {ρ : Env'} (h0 : ρ[1]? = some (.val (.lst (ws.map .loc)))) (hρ : 2 < ρ.length) : ∀ (k lo : Nat) (μ : Sto), (∀ w ∈ ws, Well w μ) →
    ∃ μ', compL (tName 2) mTrue (mApp 1 m__law_right (mCons (m2 dIx (mVal 1) (m2 dMod (mCall dInt (mCons (mVal 2) (mNil))) (mCall dLen (mCons (mVal 1) (mNil))))) (mNil))) ρ (rngD (lo : Nat) k) μ = .ok ((List.replicate k true).map .bl) μ'
  | 0, lo, μ, _ => ⟨μ, rfl⟩
  | k + 1, lo, μ, hw => by
    have hlen : (0 : Int) < (ws.length : Nat) := by omega
    obtain ⟨w, hx, hm, _⟩ := atI_nat (xs := ws) (r := (lo : Int) % (ws.length : Nat)) (Int.emod_nonneg _ (by omega)) (Int.emod_lt_of_pos _ hlen)
    obtain ⟨μ1, e, p⟩ := law_right_ok (hw w hm)
    obtain ⟨μ', e2⟩ := rights_ok h1 h3 h0 hρ k (lo + 1) μ1 fun v hv => (hw v hv).pre p
    have h0' : (ρ.set 2 (.val (.int (lo : Nat))))[1]? = some (.val (.lst (ws.map .loc))) := by rw [List.getElem?_set_ne (by decide)]; exact h0
    have hix : dIx μ (.lst (ws.map .loc)) (.int ((lo : Int) % (ws.length : Nat))) = some (.loc w) := by
      show L2.atI (ws.map D.loc) _ = _
      rw [MP.atI_map, hx]; rfl
    have e2' : compL (tName 2) mTrue (mApp 1 m__law_right (mCons (m2 dIx (mVal 1) (m2 dMod (mCall dInt (mCons (mVal 2) (mNil))) (mCall dLen (mCons (mVal 1) (mNil))))) (mNil))) ρ (rngD ((lo : Int) + 1) k) μ1 = _ := e2
    refine ⟨μ', ?_⟩
    rw [rngD, z_compL]
    simp [h0', hρ, dInt, dLen, dMod, show 0 < ws.length by omega, hix, e, e2', List.replicate_succ]
theorem law_pure : ∀ ns : List Int, ns.length ≤ 63 → (∀ z ∈ ns, Builtin.Int.intBits z ≤ 1048576) → ∃ μ, m_law [.scr ns] [] = .ok (.bl true) μ := by
  intro ns h63 _
  obtain ⟨k, hk, hk1, hk3⟩ : ∃ k : Nat, (if (if (3 : Int) < (ns.length : Nat) then (3 : Int) else (ns.length : Nat)) > 1 then (if (3 : Int) < (ns.length : Nat) then (3 : Int) else (ns.length : Nat)) else 1) = (k : Nat) ∧ 1 ≤ k ∧ k ≤ 3 := by
    refine ⟨(if (if (3 : Int) < (ns.length : Nat) then (3 : Int) else (ns.length : Nat)) > 1 then (if (3 : Int) < (ns.length : Nat) then (3 : Int) else (ns.length : Nat)) else 1).toNat, ?_⟩
    split <;> split <;> omega
  obtain ⟨ws, μ1, e1, hl, hw, _, _⟩ := wells_ok h63 (ρ := [.val (.scr ns), .un, .un]) rfl (by simp) k 0 [] (by omega)
  obtain ⟨μ2, e2⟩ := rights_ok (by omega) (by omega) (ρ := [.val (.scr ns), .val (.lst (ws.map .loc)), .un]) rfl (by simp) 15 0 μ1 hw
  have hsk : smallI (k : Nat) = true := by
    simp only [smallI, Bool.and_eq_true, decide_eq_true_eq]
    omega
  have hs15 : smallI 15 = true := by decide
  have hkb : k ≤ big := small_big (by omega)
  have h15b : (15 : Nat) ≤ big := by decide
  have e1' : compL (tName 2) mTrue (mApp 2 m__law_well (mCons (mVal 0) (mCons (mVal 2) mNil))) [.val (.scr ns), .un, .un] (rngD 0 k) [] = _ := e1
  have e2' : compL (tName 2) mTrue (mApp 1 m__law_right (mCons (m2 dIx (mVal 1) (m2 dMod (mCall dInt (mCons (mVal 2) (mNil))) (mCall dLen (mCons (mVal 1) (mNil))))) (mNil))) [.val (.scr ns), .val (.lst (ws.map .loc)), .un] (rngD 0 15) μ1 = _ := e2
  have hk' : dMax2 [] [.int 1, .int (if (3 : Int) < (ns.length : Nat) then (3 : Int) else (ns.length : Nat))] = some (.int (k : Nat)) := by
    simp only [dMax2]
    rw [hk]
  refine ⟨μ2, ?_⟩
  simp [m_law, b_law, runF, dLen, dMin2, hk', hsk, hs15, rngD_len, hkb, h15b, e1', e2', dAll, blsD]
end K85

set_option Elab.async false
set_option linter.all false
set_option maxRecDepth 100000
set_option maxHeartbeats 0
namespace K85
open PySem PySem.Spec PyProof.Rows L2 NdefX MP

def fa0 : List He.Fa := [.glo "is_whole", .glo "is_between", .glo "is_up_to", .glo "is_one_of", .glo "is_word", .glo "is_name", .glo "is_tuple_of", .glo "is_pair", .glo "wrong_in", .glo "wrong_in_all", .glo "are_below", .glo "is_figures", .glo "told_row", .glo "place_of", .glo "wrong_in_rows", .glo "rows_told", .glo "rows_by", .glo "wrong_in_people", .glo "wrong_in_counts", .glo "is_meeting", .glo "wrong_in_meetings", .glo "check_people", .glo "check_counts", .glo "check_yes_no", .glo "check_told", .glo "told_rows", .glo "read_told", .glo "_law_well", .glo "_law_draw", .glo "_law_of"]
def fa1 : List He.Fa := [.glo "_law_same", .glo "_law_words", .glo "_law_names", .glo "_law_pairs", .glo "_law_two_rows", .glo "_law_rows", .glo "_law_right", .glo "law", .free "abs", .free "all", .free "bool", .free "dict", .free "divmod", .free "enumerate", .free "int", .free "isinstance", .free "len", .free "list", .free "max", .free "min", .free "range", .free "sorted", .free "str", .free "tuple", .free "zip", .str "LETTERS" "abcdefghijklmnopqrstuvwxyz", .int "MOST_LETTERS" 8, .glo "WORDS", .str "FIGURES" "0123456789", .int "MOST_FIGURES" 400]
def fa2 : List He.Fa := [.str "PERSON" "person", .str "MET" "met", .str "NOT" "not", .int "MOST_COUNT" 7, .int "MOST_PEOPLE" 8]
def fa : List He.Fa := fa0 ++ fa1 ++ fa2
def fn0 : List He.DefD := [dOf "is_whole" s_is_whole, dOf "is_between" s_is_between, dOf "is_up_to" s_is_up_to, dOf "is_one_of" s_is_one_of, dOf "is_word" s_is_word, dOf "is_name" s_is_name, dOf "is_tuple_of" s_is_tuple_of, dOf "is_pair" s_is_pair, dOf "wrong_in" s_wrong_in, dOf "wrong_in_all" s_wrong_in_all, dOf "are_below" s_are_below, dOf "is_figures" s_is_figures, dOf "told_row" s_told_row, dOf "place_of" s_place_of, dOf "wrong_in_rows" s_wrong_in_rows, dOf "rows_told" s_rows_told, dOf "rows_by" s_rows_by, dOf "wrong_in_people" s_wrong_in_people, dOf "wrong_in_counts" s_wrong_in_counts, dOf "is_meeting" s_is_meeting, dOf "wrong_in_meetings" s_wrong_in_meetings, dOf "check_people" s_check_people, dOf "check_counts" s_check_counts, dOf "check_yes_no" s_check_yes_no, dOf "check_told" s_check_told, dOf "told_rows" s_told_rows, dOf "read_told" s_read_told, dOf "_law_well" s__law_well, dOf "_law_draw" s__law_draw, dOf "_law_of" s__law_of]
def fn1 : List He.DefD := [dOf "_law_same" s__law_same, dOf "_law_words" s__law_words, dOf "_law_names" s__law_names, dOf "_law_pairs" s__law_pairs, dOf "_law_two_rows" s__law_two_rows, dOf "_law_rows" s__law_rows, dOf "_law_right" s__law_right, dOf "law" s_law]
def fn : List He.DefD := fn0 ++ fn1
def tf : List He.Defn := [("wrong_in_all", none), ("wrong_in_people", none), ("wrong_in_counts", none), ("wrong_in_meetings", none)]
def exB (K : PySem.W.Frag) : Bool := (He.tupB K "WORDS" ((["all", "book", "can", "case", "count", "day", "days", "how", "is", "met", "never", "no", "none", "not", "of", "open", "or", "people", "quit", "strike", "sure", "tell", "undo", "web", "yes"] : List Str).map He.Dv.str)) && (decide ((tf.map fun p => (He.cT K p).2).Nodup))
abbrev Rw : PySem.W.OpenRow := PySem.W.OpenLaw.row PySem.Challenge.rw_meetcounts_k85_whole_texts
abbrev hk : PySem.W.Hook := He.hookX 5 fa fn [] tf exB
def ob (s : PySem.W.SharedT) : He.AlX := He.obsX 5 fa fn [] tf exB (HandSHeadRun.getT s)
theorem ob_eq (s : PySem.W.SharedT) : ob s = hk.obs s.abs := He.obsX_eq (HandSHeadRun.getT_eq s)
def loose0 : List PySem.Str := ["MeetError", "InvalidPeople", "InvalidCounts", "InvalidMeetings", "InvalidText", "LETTERS", "MOST_LETTERS", "WORDS", "is_whole", "is_between", "is_up_to", "is_one_of", "is_word", "is_name", "is_tuple_of", "is_pair", "wrong_in", "wrong_in_all", "are_below", "PERSON", "MET", "NOT", "FIGURES", "MOST_FIGURES", "is_figures", "told_row", "place_of", "wrong_in_rows", "rows_told", "rows_by"]
def loose1 : List PySem.Str := ["MOST_PEOPLE", "MOST_COUNT", "wrong_in_people", "wrong_in_counts", "is_meeting", "wrong_in_meetings", "check_people", "check_counts", "check_yes_no", "check_told", "told_rows", "read_told", "_law_well", "_law_draw", "_law_of", "_law_same", "_law_words", "_law_names", "_law_pairs", "_law_two_rows", "_law_rows", "_law_right"]
def loose : List PySem.Str := loose0 ++ loose1
theorem run (w : World) : HandSHeadRun.RunEq Rw (PySem.W.view Rw.prog [60]) hk ob 6000 loose w := by
  intro os
  kernel_rfl
def lamF : Nat → Option Lam := fun j => match j with | 0 => some lam_0 | 1 => some lam_1 | 2 => some lam_2 | 3 => some lam_3 | _ => none
def gOf (K : PySem.W.Frag) : G := ⟨K, fun _ => none, [((He.cT K ("wrong_in_all", none)).2, fun _ _ => lamNm "wrong_in_all" (defScope s_wrong_in_all)), ((He.cT K ("wrong_in_people", none)).2, fun _ _ => lamNm "wrong_in_people" (defScope s_wrong_in_people)), ((He.cT K ("wrong_in_counts", none)).2, fun _ _ => lamNm "wrong_in_counts" (defScope s_wrong_in_counts)), ((He.cT K ("wrong_in_meetings", none)).2, fun _ _ => lamNm "wrong_in_meetings" (defScope s_wrong_in_meetings))], lamF⟩
def gM (K : PySem.W.Frag) (mg : Str → Option Value) : G := { gOf K with mg := mg }
theorem law_def : (HandSHeadRun.topDef Rw.prog 60).name = ("law" : PySem.Str) := by kernel_rfl
theorem law_at (hpure : ∀ ns : List Int, ns.length ≤ 63 → (∀ z ∈ ns, Builtin.Int.intBits z ≤ 1048576) → ∃ μ, m_law [.scr ns] [] = .ok (.bl true) μ) {w : World} {K : PySem.W.Frag} {mg : Str → Option Value} {h : Heap} {a : Addr} (X : K.In h) (G : h.Ns mainGlobals mg) (c : He.SaysX fa fn [] tf exB w h K) (hfa : mg "law" = some (.ref a)) :
    LamX.LawAtS PySem.Challenge.rw_meetcounts_k85_whole_texts w K (L2.CX (PySem.Challenge.rw_meetcounts_k85_whole_texts).prog w) 13 63 "script" mg a h := by
  have cd : He.SaysD fa fn K := c.t.d
  have hex := c.more
  unfold exB at hex
  simp only [Bool.and_eq_true] at hex
  obtain ⟨ex_WORDS, ndT⟩ := hex
  have ndT := of_decide_eq_true ndT
  have F : Fc (gM K mg) mg := ⟨He.free_ok X G (cd.fact 38 (f := .free "abs")), He.free_ok X G (cd.fact 39 (f := .free "all")), He.free_ok X G (cd.fact 40 (f := .free "bool")), He.free_ok X G (cd.fact 41 (f := .free "dict")), He.free_ok X G (cd.fact 42 (f := .free "divmod")), He.free_ok X G (cd.fact 43 (f := .free "enumerate")), He.free_ok X G (cd.fact 44 (f := .free "int")), He.free_ok X G (cd.fact 45 (f := .free "isinstance")), He.free_ok X G (cd.fact 46 (f := .free "len")), He.free_ok X G (cd.fact 47 (f := .free "list")), He.free_ok X G (cd.fact 48 (f := .free "max")), He.free_ok X G (cd.fact 49 (f := .free "min")), He.free_ok X G (cd.fact 50 (f := .free "range")), He.free_ok X G (cd.fact 51 (f := .free "sorted")), He.free_ok X G (cd.fact 52 (f := .free "str")), He.free_ok X G (cd.fact 53 (f := .free "tuple")), He.free_ok X G (cd.fact 54 (f := .free "zip")), (He.str_ok X G (cd.fact 55 (f := .str "LETTERS" "abcdefghijklmnopqrstuvwxyz"))).elim fun _ h => globStr h, (He.int_ok X G (cd.fact 56 (f := .int "MOST_LETTERS" 8))).elim fun _ h => globInt h, strs_tup rfl X G (cd.fact 57 (f := .glo "WORDS")) ex_WORDS, (He.str_ok X G (cd.fact 58 (f := .str "FIGURES" "0123456789"))).elim fun _ h => globStr h, (He.int_ok X G (cd.fact 59 (f := .int "MOST_FIGURES" 400))).elim fun _ h => globInt h, (He.str_ok X G (cd.fact 60 (f := .str "PERSON" "person"))).elim fun _ h => globStr h, (He.str_ok X G (cd.fact 61 (f := .str "MET" "met"))).elim fun _ h => globStr h, (He.str_ok X G (cd.fact 62 (f := .str "NOT" "not"))).elim fun _ h => globStr h, (He.int_ok X G (cd.fact 63 (f := .int "MOST_COUNT" 7))).elim fun _ h => globInt h, (He.int_ok X G (cd.fact 64 (f := .int "MOST_PEOPLE" 8))).elim fun _ h => globInt h⟩
  have d_is_whole : DefOk (gM K mg).K mg "is_whole" s_is_whole (He.codeOf K ("is_whole", none)) := defAt (fa := fa) (fn := fn) X G cd 0 0
  have d_is_between : DefOk (gM K mg).K mg "is_between" s_is_between (He.codeOf K ("is_between", none)) := defAt (fa := fa) (fn := fn) X G cd 1 1
  have d_is_up_to : DefOk (gM K mg).K mg "is_up_to" s_is_up_to (He.codeOf K ("is_up_to", none)) := defAt (fa := fa) (fn := fn) X G cd 2 2
  have d_is_one_of : DefOk (gM K mg).K mg "is_one_of" s_is_one_of (He.codeOf K ("is_one_of", none)) := defAt (fa := fa) (fn := fn) X G cd 3 3
  have d_is_word : DefOk (gM K mg).K mg "is_word" s_is_word (He.codeOf K ("is_word", none)) := defAt (fa := fa) (fn := fn) X G cd 4 4
  have d_is_name : DefOk (gM K mg).K mg "is_name" s_is_name (He.codeOf K ("is_name", none)) := defAt (fa := fa) (fn := fn) X G cd 5 5
  have d_is_tuple_of : DefOk (gM K mg).K mg "is_tuple_of" s_is_tuple_of (He.codeOf K ("is_tuple_of", none)) := defAt (fa := fa) (fn := fn) X G cd 6 6
  have d_is_pair : DefOk (gM K mg).K mg "is_pair" s_is_pair (He.codeOf K ("is_pair", none)) := defAt (fa := fa) (fn := fn) X G cd 7 7
  have d_wrong_in : DefOk (gM K mg).K mg "wrong_in" s_wrong_in (He.codeOf K ("wrong_in", none)) := defAt (fa := fa) (fn := fn) X G cd 8 8
  have d_wrong_in_all : DefOk (gM K mg).K mg "wrong_in_all" s_wrong_in_all (He.codeOf K ("wrong_in_all", none)) := defAt (fa := fa) (fn := fn) X G cd 9 9
  have d_are_below : DefOk (gM K mg).K mg "are_below" s_are_below (He.codeOf K ("are_below", none)) := defAt (fa := fa) (fn := fn) X G cd 10 10
  have d_is_figures : DefOk (gM K mg).K mg "is_figures" s_is_figures (He.codeOf K ("is_figures", none)) := defAt (fa := fa) (fn := fn) X G cd 11 11
  have d_told_row : DefOk (gM K mg).K mg "told_row" s_told_row (He.codeOf K ("told_row", none)) := defAt (fa := fa) (fn := fn) X G cd 12 12
  have d_place_of : DefOk (gM K mg).K mg "place_of" s_place_of (He.codeOf K ("place_of", none)) := defAt (fa := fa) (fn := fn) X G cd 13 13
  have d_wrong_in_rows : DefOk (gM K mg).K mg "wrong_in_rows" s_wrong_in_rows (He.codeOf K ("wrong_in_rows", none)) := defAt (fa := fa) (fn := fn) X G cd 14 14
  have d_rows_told : DefOk (gM K mg).K mg "rows_told" s_rows_told (He.codeOf K ("rows_told", none)) := defAt (fa := fa) (fn := fn) X G cd 15 15
  have d_rows_by : DefOk (gM K mg).K mg "rows_by" s_rows_by (He.codeOf K ("rows_by", none)) := defAt (fa := fa) (fn := fn) X G cd 16 16
  have d_wrong_in_people : DefOk (gM K mg).K mg "wrong_in_people" s_wrong_in_people (He.codeOf K ("wrong_in_people", none)) := defAt (fa := fa) (fn := fn) X G cd 17 17
  have d_wrong_in_counts : DefOk (gM K mg).K mg "wrong_in_counts" s_wrong_in_counts (He.codeOf K ("wrong_in_counts", none)) := defAt (fa := fa) (fn := fn) X G cd 18 18
  have d_is_meeting : DefOk (gM K mg).K mg "is_meeting" s_is_meeting (He.codeOf K ("is_meeting", none)) := defAt (fa := fa) (fn := fn) X G cd 19 19
  have d_wrong_in_meetings : DefOk (gM K mg).K mg "wrong_in_meetings" s_wrong_in_meetings (He.codeOf K ("wrong_in_meetings", none)) := defAt (fa := fa) (fn := fn) X G cd 20 20
  have d_check_people : DefOk (gM K mg).K mg "check_people" s_check_people (He.codeOf K ("check_people", none)) := defAt (fa := fa) (fn := fn) X G cd 21 21
  have d_check_counts : DefOk (gM K mg).K mg "check_counts" s_check_counts (He.codeOf K ("check_counts", none)) := defAt (fa := fa) (fn := fn) X G cd 22 22
  have d_check_yes_no : DefOk (gM K mg).K mg "check_yes_no" s_check_yes_no (He.codeOf K ("check_yes_no", none)) := defAt (fa := fa) (fn := fn) X G cd 23 23
  have d_check_told : DefOk (gM K mg).K mg "check_told" s_check_told (He.codeOf K ("check_told", none)) := defAt (fa := fa) (fn := fn) X G cd 24 24
  have d_told_rows : DefOk (gM K mg).K mg "told_rows" s_told_rows (He.codeOf K ("told_rows", none)) := defAt (fa := fa) (fn := fn) X G cd 25 25
  have d_read_told : DefOk (gM K mg).K mg "read_told" s_read_told (He.codeOf K ("read_told", none)) := defAt (fa := fa) (fn := fn) X G cd 26 26
  have d__law_well : DefOk (gM K mg).K mg "_law_well" s__law_well (He.codeOf K ("_law_well", none)) := defAt (fa := fa) (fn := fn) X G cd 27 27
  have d__law_draw : DefOk (gM K mg).K mg "_law_draw" s__law_draw (He.codeOf K ("_law_draw", none)) := defAt (fa := fa) (fn := fn) X G cd 28 28
  have d__law_of : DefOk (gM K mg).K mg "_law_of" s__law_of (He.codeOf K ("_law_of", none)) := defAt (fa := fa) (fn := fn) X G cd 29 29
  have d__law_same : DefOk (gM K mg).K mg "_law_same" s__law_same (He.codeOf K ("_law_same", none)) := defAt (fa := fa) (fn := fn) X G cd 30 30
  have d__law_words : DefOk (gM K mg).K mg "_law_words" s__law_words (He.codeOf K ("_law_words", none)) := defAt (fa := fa) (fn := fn) X G cd 31 31
  have d__law_names : DefOk (gM K mg).K mg "_law_names" s__law_names (He.codeOf K ("_law_names", none)) := defAt (fa := fa) (fn := fn) X G cd 32 32
  have d__law_pairs : DefOk (gM K mg).K mg "_law_pairs" s__law_pairs (He.codeOf K ("_law_pairs", none)) := defAt (fa := fa) (fn := fn) X G cd 33 33
  have d__law_two_rows : DefOk (gM K mg).K mg "_law_two_rows" s__law_two_rows (He.codeOf K ("_law_two_rows", none)) := defAt (fa := fa) (fn := fn) X G cd 34 34
  have d__law_rows : DefOk (gM K mg).K mg "_law_rows" s__law_rows (He.codeOf K ("_law_rows", none)) := defAt (fa := fa) (fn := fn) X G cd 35 35
  have d__law_right : DefOk (gM K mg).K mg "_law_right" s__law_right (He.codeOf K ("_law_right", none)) := defAt (fa := fa) (fn := fn) X G cd 36 36
  have d_law : DefOk (gM K mg).K mg "law" s_law (He.codeOf K ("law", none)) := defAt (fa := fa) (fn := fn) X G cd 37 37
  refine law_end (l := PySem.Challenge.rw_meetcounts_k85_whole_texts) (g := gM K mg) (m := m_law) (lv := 13) (n := 63) (st := s_law) (c := He.codeOf K ("law", none)) d_law hfa (cs := tf.map (He.cT K)) ?_ ?_ ?_ (fun _ _ _ _ _ _ _ => rfl) ?_ hpure fun base KB GB TBs => ?_
  · intro p hp; obtain ⟨t, ht, rfl⟩ := List.mem_map.mp hp; exact c.empty t ht
  · intro p hp; obtain ⟨t, ht, rfl⟩ := List.mem_map.mp hp; exact c.out t ht
  · intro p hp; obtain ⟨t, ht, rfl⟩ := List.mem_map.mp hp; exact PySem.W.codeHd_of_K X (c.hd t ht)
  · intro p hp
    simp only [gM, gOf, tf, List.map_cons, List.map_nil, List.mem_cons, List.not_mem_nil, or_false] at hp ⊢
    rcases hp with rfl | rfl | rfl | rfl
    · exact ⟨He.cT K ("wrong_in_all", none), by simp, rfl⟩
    · exact ⟨He.cT K ("wrong_in_people", none), by simp, rfl⟩
    · exact ⟨He.cT K ("wrong_in_counts", none), by simp, rfl⟩
    · exact ⟨He.cT K ("wrong_in_meetings", none), by simp, rfl⟩
  have TB : ∀ t ∈ tf, LamX.TabB base mg (He.codeOf K t) (He.cT K t).2 := fun t ht => TBs _ (List.mem_map_of_mem ht)
  have hP_wrong_in_all : ((He.cT K ("wrong_in_all", none)).2, fun _ _ => lamNm "wrong_in_all" (defScope s_wrong_in_all)) ∈ (gM K mg).tabs := List.mem_of_getElem? (i := 0) rfl
  have hu_wrong_in_all : ∀ p ∈ (gM K mg).tabs, p.1 = (He.cT K ("wrong_in_all", none)).2 → p.2 = fun _ _ => lamNm "wrong_in_all" (defScope s_wrong_in_all) := fun p hp e => tabs_uniq (l := (gM K mg).tabs) ndT (k := 0) hp rfl e
  have hP_wrong_in_people : ((He.cT K ("wrong_in_people", none)).2, fun _ _ => lamNm "wrong_in_people" (defScope s_wrong_in_people)) ∈ (gM K mg).tabs := List.mem_of_getElem? (i := 1) rfl
  have hu_wrong_in_people : ∀ p ∈ (gM K mg).tabs, p.1 = (He.cT K ("wrong_in_people", none)).2 → p.2 = fun _ _ => lamNm "wrong_in_people" (defScope s_wrong_in_people) := fun p hp e => tabs_uniq (l := (gM K mg).tabs) ndT (k := 1) hp rfl e
  have hP_wrong_in_counts : ((He.cT K ("wrong_in_counts", none)).2, fun _ _ => lamNm "wrong_in_counts" (defScope s_wrong_in_counts)) ∈ (gM K mg).tabs := List.mem_of_getElem? (i := 2) rfl
  have hu_wrong_in_counts : ∀ p ∈ (gM K mg).tabs, p.1 = (He.cT K ("wrong_in_counts", none)).2 → p.2 = fun _ _ => lamNm "wrong_in_counts" (defScope s_wrong_in_counts) := fun p hp e => tabs_uniq (l := (gM K mg).tabs) ndT (k := 2) hp rfl e
  have hP_wrong_in_meetings : ((He.cT K ("wrong_in_meetings", none)).2, fun _ _ => lamNm "wrong_in_meetings" (defScope s_wrong_in_meetings)) ∈ (gM K mg).tabs := List.mem_of_getElem? (i := 3) rfl
  have hu_wrong_in_meetings : ∀ p ∈ (gM K mg).tabs, p.1 = (He.cT K ("wrong_in_meetings", none)).2 → p.2 = fun _ _ => lamNm "wrong_in_meetings" (defScope s_wrong_in_meetings) := fun p hp e => tabs_uniq (l := (gM K mg).tabs) ndT (k := 3) hp rfl e
  have c_is_whole : Fn (gM K mg) (PySem.Challenge.rw_meetcounts_k85_whole_texts).prog w mg base 1 "is_whole" 1 m_is_whole := fn_of_def (def_is_whole F d_is_whole)
  have c_is_between : Fn (gM K mg) (PySem.Challenge.rw_meetcounts_k85_whole_texts).prog w mg base 2 "is_between" 3 m_is_between := fn_of_def (def_is_between F d_is_between c_is_whole)
  have c_is_up_to : Fn (gM K mg) (PySem.Challenge.rw_meetcounts_k85_whole_texts).prog w mg base 3 "is_up_to" 2 m_is_up_to := fn_of_def (def_is_up_to F d_is_up_to c_is_between)
  have c_is_one_of : Fn (gM K mg) (PySem.Challenge.rw_meetcounts_k85_whole_texts).prog w mg base 1 "is_one_of" 2 m_is_one_of := fn_of_def (def_is_one_of F d_is_one_of)
  have c_is_word : Fn (gM K mg) (PySem.Challenge.rw_meetcounts_k85_whole_texts).prog w mg base 1 "is_word" 1 m_is_word := fn_of_def (def_is_word F d_is_word)
  have c_is_name : Fn (gM K mg) (PySem.Challenge.rw_meetcounts_k85_whole_texts).prog w mg base 2 "is_name" 1 m_is_name := fn_of_def (def_is_name F d_is_name c_is_word)
  have c_is_tuple_of : Fn (gM K mg) (PySem.Challenge.rw_meetcounts_k85_whole_texts).prog w mg base 1 "is_tuple_of" 2 m_is_tuple_of := fn_of_def (def_is_tuple_of F d_is_tuple_of)
  have c_is_pair : Fn (gM K mg) (PySem.Challenge.rw_meetcounts_k85_whole_texts).prog w mg base 2 "is_pair" 1 m_is_pair := fn_of_def (def_is_pair F d_is_pair c_is_tuple_of)
  have c_are_below : Fn (gM K mg) (PySem.Challenge.rw_meetcounts_k85_whole_texts).prog w mg base 1 "are_below" 2 m_are_below := fn_of_def (def_are_below F d_are_below)
  have c_is_figures : Fn (gM K mg) (PySem.Challenge.rw_meetcounts_k85_whole_texts).prog w mg base 1 "is_figures" 1 m_is_figures := fn_of_def (def_is_figures F d_is_figures)
  have c_told_row : Fn (gM K mg) (PySem.Challenge.rw_meetcounts_k85_whole_texts).prog w mg base 2 "told_row" 1 m_told_row := fn_of_def (def_told_row F d_told_row c_is_word c_is_figures)
  have c_place_of : Fn (gM K mg) (PySem.Challenge.rw_meetcounts_k85_whole_texts).prog w mg base 1 "place_of" 1 m_place_of := fn_of_def (def_place_of F d_place_of)
  have c_wrong_in_rows : Fn (gM K mg) (PySem.Challenge.rw_meetcounts_k85_whole_texts).prog w mg base 3 "wrong_in_rows" 1 m_wrong_in_rows := fn_of_def (def_wrong_in_rows F d_wrong_in_rows c_told_row c_place_of)
  have c_rows_told : Fn (gM K mg) (PySem.Challenge.rw_meetcounts_k85_whole_texts).prog w mg base 3 "rows_told" 1 m_rows_told := fn_of_def (def_rows_told F d_rows_told c_told_row)
  have c_rows_by : Fn (gM K mg) (PySem.Challenge.rw_meetcounts_k85_whole_texts).prog w mg base 1 "rows_by" 4 m_rows_by := fn_of_def (def_rows_by F d_rows_by)
  have c_is_meeting : Fn (gM K mg) (PySem.Challenge.rw_meetcounts_k85_whole_texts).prog w mg base 3 "is_meeting" 2 m_is_meeting := fn_of_def (def_is_meeting F d_is_meeting c_is_pair c_is_one_of)
  have c__law_well : Fn (gM K mg) (PySem.Challenge.rw_meetcounts_k85_whole_texts).prog w mg base 1 "_law_well" 2 m__law_well := fn_of_def (def__law_well F d__law_well)
  have c__law_draw : Fn (gM K mg) (PySem.Challenge.rw_meetcounts_k85_whole_texts).prog w mg base 1 "_law_draw" 2 m__law_draw := fn_of_def (def__law_draw F d__law_draw)
  have c__law_of : Fn (gM K mg) (PySem.Challenge.rw_meetcounts_k85_whole_texts).prog w mg base 2 "_law_of" 2 m__law_of := fn_of_def (def__law_of F d__law_of c__law_draw)
  have c__law_same : Fn (gM K mg) (PySem.Challenge.rw_meetcounts_k85_whole_texts).prog w mg base 9 "_law_same" 2 m__law_same := ok__law_same F d__law_same
  have c__law_words : Fn (gM K mg) (PySem.Challenge.rw_meetcounts_k85_whole_texts).prog w mg base 1 "_law_words" 0 m__law_words := fn_of_def (def__law_words F d__law_words)
  have c__law_names : Fn (gM K mg) (PySem.Challenge.rw_meetcounts_k85_whole_texts).prog w mg base 3 "_law_names" 2 m__law_names := fn_of_def (def__law_names F d__law_names c__law_of c__law_draw c__law_words)
  have c__law_pairs : Fn (gM K mg) (PySem.Challenge.rw_meetcounts_k85_whole_texts).prog w mg base 1 "_law_pairs" 1 m__law_pairs := fn_of_def (def__law_pairs F d__law_pairs)
  have c__law_two_rows : Fn (gM K mg) (PySem.Challenge.rw_meetcounts_k85_whole_texts).prog w mg base 2 "_law_two_rows" 2 m__law_two_rows := fn_of_def (def__law_two_rows F d__law_two_rows c__law_pairs c__law_draw)
  have c__law_rows : Fn (gM K mg) (PySem.Challenge.rw_meetcounts_k85_whole_texts).prog w mg base 1 "_law_rows" 4 m__law_rows := fn_of_def (def__law_rows F d__law_rows)
  have tT_0 : TOk (gM K mg) (PySem.Challenge.rw_meetcounts_k85_whole_texts).prog w mg base 3 (Tn 0) := ⟨fun _ _ _ => LamOk.er⟩
  have tT_1 : TOk (gM K mg) (PySem.Challenge.rw_meetcounts_k85_whole_texts).prog w mg base 4 (Tn 1) := by
    refine ⟨fun k L hL => ?_⟩
    match k, hL with
    | 0, hL => cases (show some lam_0 = some L from hL); exact LamOk.mono (lok_0 F (by decide) tT_0) (by decide)
    | 1, hL => cases (show some lam_1 = some L from hL); exact LamOk.mono (lok_1 F c_is_name c_are_below) (by decide)
    | 2, hL => cases (show some lam_2 = some L from hL); exact LamOk.mono (lok_2 F c_is_up_to) (by decide)
    | 3, hL => cases (show some lam_3 = some L from hL); exact LamOk.mono (lok_3 F c_is_meeting c_are_below) (by decide)
    | _ + 4, hL => cases (show (none : Option Lam) = some L from hL)
  have tT_2 : TOk (gM K mg) (PySem.Challenge.rw_meetcounts_k85_whole_texts).prog w mg base 5 (Tn 2) := by
    refine ⟨fun k L hL => ?_⟩
    match k, hL with
    | 0, hL => cases (show some lam_0 = some L from hL); exact LamOk.mono (lok_0 F (by decide) tT_1) (by decide)
    | 1, hL => cases (show some lam_1 = some L from hL); exact LamOk.mono (lok_1 F c_is_name c_are_below) (by decide)
    | 2, hL => cases (show some lam_2 = some L from hL); exact LamOk.mono (lok_2 F c_is_up_to) (by decide)
    | 3, hL => cases (show some lam_3 = some L from hL); exact LamOk.mono (lok_3 F c_is_meeting c_are_below) (by decide)
    | _ + 4, hL => cases (show (none : Option Lam) = some L from hL)
  have tT := tT_2
  have c_wrong_in : Fn (gM K mg) (PySem.Challenge.rw_meetcounts_k85_whole_texts).prog w mg base 6 "wrong_in" 4 (m_wrong_in T) := fn_of_def (def_wrong_in F d_wrong_in tT)
  have c_wrong_in_all : Fn (gM K mg) (PySem.Challenge.rw_meetcounts_k85_whole_texts).prog w mg base 7 "wrong_in_all" 3 (m_wrong_in_all T) := fn_of_def (def_wrong_in_all F d_wrong_in_all c_is_tuple_of c_wrong_in (TB ("wrong_in_all", none) (List.mem_of_getElem? (i := 0) rfl)) hP_wrong_in_all hu_wrong_in_all rfl)
  have c_wrong_in_people : Fn (gM K mg) (PySem.Challenge.rw_meetcounts_k85_whole_texts).prog w mg base 7 "wrong_in_people" 1 m_wrong_in_people := fn_of_def (def_wrong_in_people F d_wrong_in_people c_wrong_in (TB ("wrong_in_people", none) (List.mem_of_getElem? (i := 1) rfl)) hP_wrong_in_people hu_wrong_in_people rfl)
  have c_wrong_in_counts : Fn (gM K mg) (PySem.Challenge.rw_meetcounts_k85_whole_texts).prog w mg base 8 "wrong_in_counts" 2 m_wrong_in_counts := fn_of_def (def_wrong_in_counts F d_wrong_in_counts c_wrong_in_all (TB ("wrong_in_counts", none) (List.mem_of_getElem? (i := 2) rfl)) hP_wrong_in_counts hu_wrong_in_counts rfl)
  have c_wrong_in_meetings : Fn (gM K mg) (PySem.Challenge.rw_meetcounts_k85_whole_texts).prog w mg base 7 "wrong_in_meetings" 3 m_wrong_in_meetings := fn_of_def (def_wrong_in_meetings F d_wrong_in_meetings c_wrong_in (TB ("wrong_in_meetings", none) (List.mem_of_getElem? (i := 3) rfl)) hP_wrong_in_meetings hu_wrong_in_meetings rfl)
  have c_check_people : Fn (gM K mg) (PySem.Challenge.rw_meetcounts_k85_whole_texts).prog w mg base 8 "check_people" 1 m_check_people := fn_of_def (def_check_people F d_check_people c_wrong_in_people)
  have c_check_counts : Fn (gM K mg) (PySem.Challenge.rw_meetcounts_k85_whole_texts).prog w mg base 9 "check_counts" 2 m_check_counts := fn_of_def (def_check_counts F d_check_counts c_check_people c_wrong_in_counts)
  have c_check_yes_no : Fn (gM K mg) (PySem.Challenge.rw_meetcounts_k85_whole_texts).prog w mg base 8 "check_yes_no" 3 m_check_yes_no := fn_of_def (def_check_yes_no F d_check_yes_no c_wrong_in_meetings)
  have c_check_told : Fn (gM K mg) (PySem.Challenge.rw_meetcounts_k85_whole_texts).prog w mg base 10 "check_told" 4 m_check_told := fn_of_def (def_check_told F d_check_told c_check_counts c_check_yes_no)
  have c_told_rows : Fn (gM K mg) (PySem.Challenge.rw_meetcounts_k85_whole_texts).prog w mg base 11 "told_rows" 4 m_told_rows := fn_of_def (def_told_rows F d_told_rows c_check_told c_rows_by)
  have k_told_rows := kw_told_rows F d_told_rows c_check_told c_rows_by
  have c_read_told : Fn (gM K mg) (PySem.Challenge.rw_meetcounts_k85_whole_texts).prog w mg base 11 "read_told" 1 m_read_told := fn_of_def (def_read_told F d_read_told c_wrong_in_rows c_rows_told c_check_told)
  have k_read_told := kw_read_told F d_read_told c_wrong_in_rows c_rows_told c_check_told
  have c__law_right : Fn (gM K mg) (PySem.Challenge.rw_meetcounts_k85_whole_texts).prog w mg base 12 "_law_right" 1 m__law_right := fn_of_def (def__law_right F d__law_right c__law_names c__law_draw c__law_two_rows c__law_rows c__law_same c_told_rows c_read_told k_read_told k_told_rows)
  exact def_law F d_law c__law_well c__law_right
end K85
open PySem PySem.W PySem.Calls PyProof.Rows
theorem PySem.Challenge.cw_meetcounts_k85_whole_texts_holds : PySem.Challenge.rw_meetcounts_k85_whole_texts.Holds := by
  w_on; o_law
  refine HandSHeadRun.head_any (r := OpenLaw.row PySem.Challenge.rw_meetcounts_k85_whole_texts) (q := view (OpenLaw.row PySem.Challenge.rw_meetcounts_k85_whole_texts).prog [60]) (H := K85.hk) (ob := K85.ob) (M := 6000) (loose := K85.loose) (d := HandSHeadRun.topDef (OpenLaw.row PySem.Challenge.rw_meetcounts_k85_whole_texts).prog 60) (kwd := []) K85.ob_eq
    (by kernel_rfl) (fun s => by kernel_rfl) K85.run (by kernel_rfl) (by kernel_rfl) (by kernel_rfl) (by rfl) (by first | assumption | decide +kernel) (by decide +kernel) ⟨rfl, rfl, rfl, rfl, rfl, by decide +kernel⟩ ?hw ?hc
  case hw => w_witness2
  case hc =>
    refine LamX.walk_ofTsE (l := PySem.Challenge.rw_meetcounts_k85_whole_texts) (n := 63) (k := 13) (x := "script") (CX := fun w => L2.CX (PySem.Challenge.rw_meetcounts_k85_whole_texts).prog w) rfl (by decide) (by kernel_rfl) ⟨rfl, by decide, by decide⟩ ?F MP.no_cx
    intro w mg a h Y G hmg0
    obtain ⟨K, KX, c⟩ := Y
    exact ⟨K, KX, K85.law_at K85.law_pure KX G c (by rw [← K85.law_def]; exact hmg0)⟩
