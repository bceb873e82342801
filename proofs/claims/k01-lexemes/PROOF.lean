import PyProof.Rows.All
import HandS.ForMost
import HandS.CallSlots
import HandS.ExcInit
import HandS.ExcField
import HandS.ExcIs
import HandS.Defaults
import HandS.WordsExc
import HandS.More
import HandS.Wide
import HandS.IsInst
import HandS.TupMul
import HandS.Small
import PyProof.ListIndexNeg
import KE.KExcSuper
import HandS.Head0
import HandS.Head1
import HandS.Head2
import HandS.HeadEnd
import HandS.HeadHook1
import HandS.HeadHook2
import HandS.HeadHook3
import HandS.HeadHook4
import PySem.Challenge.RW_roundcredits_k01_lexemes
set_option Elab.async false
set_option linter.all false
set_option maxRecDepth 100000
set_option maxHeartbeats 4000000
/-! DL: data by value over HandS. -/
namespace DL
open PySem PySem.Spec PyProof.Rows L2

/-! ### data -/
/-- a dict's key: an int, a text by its codes -/
abbrev DK := Sum Int (List Nat)
inductive D where
  | u | non | bl (b : Bool) | int (i : Int) | str (s : List Nat)
  | tup (ds : List D) | lst (ds : List D) | dic (kds : List (DK × D))
  | ref (n : Nat)
  | scr (ns : List Int)
/-- what may change -/
inductive Ob where
  | lst (ds : List D) | dic (kds : List (DK × D)) | dead
def kk : DK → Key
  | .inl i => .inl i
  | .inr s => .inr ⟨s.toArray⟩
abbrev Mh := List Ob
/-- an outcome -/
inductive Rs (α : Type) where
  | ok (a : α) (h : Mh)
  | ex (c : String) (fs : List (String × D)) (h : Mh)
  | no
def Rs.bind {α β : Type} (r : Rs α) (k : α → Mh → Rs β) : Rs β := match r with
  | .ok a h => k a h
  | .ex c fs h => .ex c fs h
  | .no => .no
abbrev EE := List D → Mh → Rs D
abbrev EB := List D → Mh → Rs Bool
abbrev EL := List D → Mh → Rs (List D)

/-! ### what stands for what -/
def Live (m : List Addr) (h : Mh) (a : Addr) : Prop := ∃ (n : Nat) (o : Ob), m[n]? = some a ∧ h[n]? = some o ∧ o ≠ Ob.dead
/-- a list that nobody changes -/
def FzL (K : PySem.W.Frag) (H : Hp) (L : Addr → Prop) (a : Addr) (xs : List V) : Prop := H a = some (.lst xs) ∧ ¬ L a
/-- the script -/
def Scr (K : PySem.W.Frag) (H : Hp) (a : Addr) (xs : List V) : Prop :=
  (∃ o, H a = some (.frz o (.lst xs))) ∨ ∃ (o : Obj) (its : Array Value) (n : Nat), K.lookup a = some o ∧ o.cls = .type "list" ∧ o.dict = none ∧ o.data = .seq its n ∧ its.size ≤ sizeLine ∧ Vals xs its.toList
theorem Scr.sq {K : PySem.W.Frag} {H : Hp} {a : Addr} {xs : List V} (h : Scr K H a xs) : SqL K H a xs := by
  rcases h with ⟨o, h⟩ | h
  · exact .inl (.inr ⟨o, h⟩)
  · exact .inr h
/-- a dict that nobody changes: tracked, or a table of the module's with text keys -/
def FzD (K : PySem.W.Frag) (w : World) (H : Hp) (L : Addr → Prop) (a : Addr) (kvs : List (Key × V)) : Prop :=
  (H a = some (.dK kvs) ∧ ¬ L a) ∨ ∃ es n, KDict K w a es n ∧ (∀ i : Int, valV kvs (.inl i) = none) ∧ ∀ z : Str, ∃ r, PySem.W.nsIn K a z = some r ∧ RelO (valV kvs (.inr z)) r
theorem FzL.sq {K : PySem.W.Frag} {H : Hp} {L : Addr → Prop} {a : Addr} {xs : List V} (h : FzL K H L a xs) : SqL K H a xs := .of h.1

section
variable (K : PySem.W.Frag) (w : World) (H : Hp) (L : Addr → Prop) (m : List Addr)
mutual
inductive IsD : V → D → Prop where
  | non : IsD .non .non
  | bl (b : Bool) : IsD (.bl b) (.bl b)
  | int (i : Int) : IsD (.int i) (.int i)
  | str (s : List Nat) : IsD (.str ⟨s.toArray⟩) (.str s)
  | tup {a : Addr} {xs : List V} {ds : List D} : SqT K H a xs → IsDs xs ds → IsD (.ref a) (.tup ds)
  | lst {a : Addr} {xs : List V} {ds : List D} : FzL K H L a xs → IsDs xs ds → IsD (.ref a) (.lst ds)
  | dic {a : Addr} {kvs : List (Key × V)} {kds : List (DK × D)} : FzD K w H L a kvs → IsKs kvs kds → IsD (.ref a) (.dic kds)
  | ref {n : Nat} {a : Addr} : m[n]? = some a → IsD (.ref a) (.ref n)
  | scr {a : Addr} {ns : List Int} : Scr K H a (ns.map V.int) → IsD (.ref a) (.scr ns)
inductive IsDs : List V → List D → Prop where
  | nil : IsDs [] []
  | cons {v : V} {d : D} {vs : List V} {ds : List D} : IsD v d → IsDs vs ds → IsDs (v :: vs) (d :: ds)
inductive IsKs : List (Key × V) → List (DK × D) → Prop where
  | nil : IsKs [] []
  | cons {k : DK} {v : V} {d : D} {vs : List (Key × V)} {ds : List (DK × D)} : IsD v d → IsKs vs ds → IsKs ((kk k, v) :: vs) ((k, d) :: ds)
end
def ObD (a : Addr) : Ob → Prop
  | .lst ds => ∃ xs, H a = some (.lst xs) ∧ IsDs K w H L m xs ds
  | .dic kds => ∃ kvs, H a = some (.dK kvs) ∧ IsKs K w H L m kvs kds
  | .dead => ∃ o, H a = some o
end

structure Rep (K : PySem.W.Frag) (w : World) (H : Hp) (m : List Addr) (h : Mh) : Prop where
  len : m.length = h.length
  nd : m.Nodup
  ob : ∀ (n : Nat) (a : Addr) (o : Ob), m[n]? = some a → h[n]? = some o → ObD K w H (Live m h) m a o

structure Ext (H : Hp) (m : List Addr) (h : Mh) (H' : Hp) (m' : List Addr) (h' : Mh) : Prop where
  pre : ∀ (n : Nat) (a : Addr), m[n]? = some a → m'[n]? = some a
  keep : ∀ a o, H a = some o → ¬ Live m h a → H' a = some o
  some_ : ∀ a o, H a = some o → ∃ o', H' a = some o'
  fresh : ∀ a, Live m' h' a → Live m h a ∨ H a = none

section
variable {K : PySem.W.Frag} {w : World} {H H' H2 : Hp} {m m' m2 : List Addr} {h h' h2 : Mh}
theorem Ext.refl : Ext H m h H m h := ⟨fun _ _ e => e, fun _ _ e _ => e, fun _ o e => ⟨o, e⟩, fun _ l => .inl l⟩
theorem Ext.trans (a : Ext H m h H' m' h') (b : Ext H' m' h' H2 m2 h2) : Ext H m h H2 m2 h2 := by
  refine ⟨fun n x e => b.pre n x (a.pre n x e), fun x o e nl => b.keep x o (a.keep x o e nl) fun l => ?_, fun x o e => ?_, fun x l => ?_⟩
  · rcases a.fresh x l with z | z
    · exact nl z
    · rw [e] at z; cases z
  · obtain ⟨o', e'⟩ := a.some_ x o e
    exact b.some_ x o' e'
  · rcases b.fresh x l with z | z
    · exact a.fresh x z
    · cases q : H x with
      | none => exact .inr rfl
      | some o =>
        obtain ⟨o', e'⟩ := a.some_ x o q
        rw [z] at e'; cases e'
/-- a live address holds a list or a dict -/
theorem Rep.liveLst (r : Rep K w H m h) {a : Addr} (l : Live m h a) : (∃ xs, H a = some (.lst xs)) ∨ ∃ kvs, H a = some (.dK kvs) := by
  obtain ⟨n, o, e1, e2, ne⟩ := l
  have q := r.ob n a o e1 e2
  cases o with
  | lst ds => obtain ⟨xs, e, _⟩ := q; exact .inl ⟨xs, e⟩
  | dic kds => obtain ⟨kvs, e, _⟩ := q; exact .inr ⟨kvs, e⟩
  | dead => exact absurd rfl ne
theorem Ext.sqT (r : Rep K w H m h) (x : Ext H m h H' m' h') {a : Addr} {xs : List V} (q : SqT K H a xs) : SqT K H' a xs := by
  rcases q with (q | ⟨o, q⟩) | q
  · refine .inl (.inl (x.keep _ _ q fun l => ?_))
    rcases r.liveLst l with ⟨ys, e⟩ | ⟨ys, e⟩ <;> (rw [q] at e; cases e)
  · refine .inl (.inr ⟨o, x.keep _ _ q fun l => ?_⟩)
    rcases r.liveLst l with ⟨ys, e⟩ | ⟨ys, e⟩ <;> (rw [q] at e; cases e)
  · exact .inr q
theorem Ext.dead (x : Ext H m h H' m' h') {a : Addr} {o : HO} (e : H a = some o) (nl : ¬ Live m h a) : ¬ Live m' h' a := fun l => by
  rcases x.fresh a l with z | z
  · exact nl z
  · rw [e] at z; cases z
theorem Ext.fzL (r : Rep K w H m h) (x : Ext H m h H' m' h') {a : Addr} {xs : List V} (q : FzL K H (Live m h) a xs) : FzL K H' (Live m' h') a xs := ⟨x.keep _ _ q.1 q.2, x.dead q.1 q.2⟩
theorem Ext.scr (r : Rep K w H m h) (x : Ext H m h H' m' h') {a : Addr} {xs : List V} (q : Scr K H a xs) : Scr K H' a xs := by
  rcases q with ⟨o, q⟩ | q
  · refine .inl ⟨o, x.keep _ _ q fun l => ?_⟩
    rcases r.liveLst l with ⟨ys, e⟩ | ⟨ys, e⟩ <;> (rw [q] at e; cases e)
  · exact .inr q
theorem Ext.fzD (r : Rep K w H m h) (x : Ext H m h H' m' h') {a : Addr} {kvs : List (Key × V)} (q : FzD K w H (Live m h) a kvs) : FzD K w H' (Live m' h') a kvs := by
  rcases q with ⟨q, nl⟩ | q
  · exact .inl ⟨x.keep _ _ q nl, x.dead q nl⟩
  · exact .inr q
end

section
variable {K : PySem.W.Frag} {w : World} {H H' : Hp} {L L' : Addr → Prop} {m m' : List Addr}
mutual
theorem IsD.mono (t1 : ∀ a xs, SqT K H a xs → SqT K H' a xs) (t2 : ∀ a xs, FzL K H L a xs → FzL K H' L' a xs) (t3 : ∀ a xs, FzD K w H L a xs → FzD K w H' L' a xs) (t4 : ∀ (n : Nat) (a : Addr), m[n]? = some a → m'[n]? = some a) (t5 : ∀ a xs, Scr K H a xs → Scr K H' a xs) :
    ∀ (d : D) (v : V), IsD K w H L m v d → IsD K w H' L' m' v d
  | .u, _, q => by cases q
  | .non, _, q => by cases q; exact .non
  | .bl b, _, q => by cases q; exact .bl b
  | .int i, _, q => by cases q; exact .int i
  | .str s, _, q => by cases q; exact .str s
  | .tup ds, _, q => by
    cases q with
    | tup e r => exact .tup (t1 _ _ e) (IsDs.mono t1 t2 t3 t4 t5 ds _ r)
  | .lst ds, _, q => by
    cases q with
    | lst e r => exact .lst (t2 _ _ e) (IsDs.mono t1 t2 t3 t4 t5 ds _ r)
  | .dic kds, _, q => by
    cases q with
    | dic e r => exact .dic (t3 _ _ e) (IsKs.mono t1 t2 t3 t4 t5 kds _ r)
  | .ref n, _, q => by
    cases q with
    | ref e => exact .ref (t4 _ _ e)
  | .scr ns, _, q => by
    cases q with
    | scr e => exact .scr (t5 _ _ e)
theorem IsDs.mono (t1 : ∀ a xs, SqT K H a xs → SqT K H' a xs) (t2 : ∀ a xs, FzL K H L a xs → FzL K H' L' a xs) (t3 : ∀ a xs, FzD K w H L a xs → FzD K w H' L' a xs) (t4 : ∀ (n : Nat) (a : Addr), m[n]? = some a → m'[n]? = some a) (t5 : ∀ a xs, Scr K H a xs → Scr K H' a xs) :
    ∀ (ds : List D) (vs : List V), IsDs K w H L m vs ds → IsDs K w H' L' m' vs ds
  | [], _, q => by cases q; exact .nil
  | d :: ds, _, q => by
    cases q with
    | cons a b => exact .cons (IsD.mono t1 t2 t3 t4 t5 d _ a) (IsDs.mono t1 t2 t3 t4 t5 ds _ b)
theorem IsKs.mono (t1 : ∀ a xs, SqT K H a xs → SqT K H' a xs) (t2 : ∀ a xs, FzL K H L a xs → FzL K H' L' a xs) (t3 : ∀ a xs, FzD K w H L a xs → FzD K w H' L' a xs) (t4 : ∀ (n : Nat) (a : Addr), m[n]? = some a → m'[n]? = some a) (t5 : ∀ a xs, Scr K H a xs → Scr K H' a xs) :
    ∀ (ds : List (DK × D)) (vs : List (Key × V)), IsKs K w H L m vs ds → IsKs K w H' L' m' vs ds
  | [], _, q => by cases q; exact .nil
  | (k, d) :: ds, _, q => by
    cases q with
    | cons a b => exact .cons (IsD.mono t1 t2 t3 t4 t5 d _ a) (IsKs.mono t1 t2 t3 t4 t5 ds _ b)
end
end
section
variable {K : PySem.W.Frag} {w : World} {H H' : Hp} {m m' : List Addr} {h h' : Mh}
theorem Ext.isD (r : Rep K w H m h) (x : Ext H m h H' m' h') {v : V} {d : D} (q : IsD K w H (Live m h) m v d) : IsD K w H' (Live m' h') m' v d :=
  IsD.mono (fun _ _ => x.sqT r) (fun _ _ => x.fzL r) (fun _ _ => x.fzD r) x.pre (fun _ _ => x.scr r) d v q
theorem Ext.isDs (r : Rep K w H m h) (x : Ext H m h H' m' h') {v : List V} {d : List D} (q : IsDs K w H (Live m h) m v d) : IsDs K w H' (Live m' h') m' v d :=
  IsDs.mono (fun _ _ => x.sqT r) (fun _ _ => x.fzL r) (fun _ _ => x.fzD r) x.pre (fun _ _ => x.scr r) d v q
theorem Ext.isKs (r : Rep K w H m h) (x : Ext H m h H' m' h') {v : List (Key × V)} {d : List (DK × D)} (q : IsKs K w H (Live m h) m v d) : IsKs K w H' (Live m' h') m' v d :=
  IsKs.mono (fun _ _ => x.sqT r) (fun _ _ => x.fzL r) (fun _ _ => x.fzD r) x.pre (fun _ _ => x.scr r) d v q
end
end DL

namespace DL
open PySem PySem.Spec PyProof.Rows L2

/-- the exception that an except suite holds: its slot, its object, its class and dict -/
structure XI where
  i : Nat
  a : Addr
  cls : Value
  dd : Addr
  c : String
  fs : List (String × D)
/-- where one stands: the frame, the wish of exceptions, the exception held -/
structure Tx where
  X : Cx
  W : WX
  xi : Option XI := none
abbrev RD (T : Tx) (H : Hp) (m : List Addr) (h : Mh) (v : V) (d : D) : Prop := IsD T.X.K T.X.w H (Live m h) m v d
abbrev RL (T : Tx) (H : Hp) (m : List Addr) (h : Mh) (v : List V) (d : List D) : Prop := IsDs T.X.K T.X.w H (Live m h) m v d
abbrev RB (T : Tx) (H : Hp) (m : List Addr) (h : Mh) (v : Bool) (d : Bool) : Prop := v = d
def XF (K : PySem.W.Frag) (w : World) (H : Hp) (m : List Addr) (h : Mh) (dd : Addr) (fs : List (String × D)) : Prop :=
  ∃ ys, H dd = some (.xd ys) ∧ ∀ f d, fs.lookup f = some d → ∃ v, ys.lookup (Str.ofString f) = some v ∧ IsD K w H (Live m h) m v d
structure Fits (T : Tx) (m : List Addr) (ρ : List D) (h : Mh) (σ : L2.St) (H : Hp) : Prop where
  rep : Rep T.X.K T.X.w H m h
  env : ∀ (i : Nat) d, ρ[i]? = some d → d ≠ .u → ∃ v, σ[i]? = some (some v) ∧ RD T H m h v d
  exc : ∀ x, T.xi = some x → σ[x.i]? = some (some (V.ref x.a)) ∧ XF T.X.K T.X.w H m h x.dd x.fs
  len : ρ.length ≤ σ.length
/-- what must hold behind -/
def Post {α β : Type} (T : Tx) (R : Hp → List Addr → Mh → β → α → Prop) (m : List Addr) (h : Mh) (H : Hp) (σ : L2.St) (r : Rs α) (Q : β → Hp → Prop) : Prop := match r with
  | .ok d h' => ∀ v H' m', Rep T.X.K T.X.w H' m' h' → Ext H m h H' m' h' → R H' m' h' v d → Q v H'
  | .ex c fs h' => ∀ cls dd H' m', Rep T.X.K T.X.w H' m' h' → Ext H m h H' m' h' → T.X.mg (Str.ofString c) = some cls → XF T.X.K T.X.w H' m' h' dd fs → T.W cls (some dd) σ H'
  | .no => False

section
variable {T : Tx} {α β γ δ : Type} {R : Hp → List Addr → Mh → β → α → Prop} {R' : Hp → List Addr → Mh → δ → γ → Prop} {m m1 : List Addr} {h h1 : Mh} {H H1 : Hp} {σ : L2.St} {ρ : List D}
theorem Live.not_xd (r : Rep T.X.K T.X.w H m h) {a : Addr} {ys : List (Str × V)} (e : H a = some (.xd ys)) : ¬ Live m h a := fun l => by
  rcases r.liveLst l with ⟨xs, q⟩ | ⟨xs, q⟩ <;> (rw [e] at q; cases q)
theorem XF.step {dd : Addr} {fs : List (String × D)} (r : Rep T.X.K T.X.w H m h) (x : Ext H m h H1 m1 h1) (f : XF T.X.K T.X.w H m h dd fs) : XF T.X.K T.X.w H1 m1 h1 dd fs := by
  obtain ⟨ys, e, q⟩ := f
  refine ⟨ys, x.keep _ _ e (Live.not_xd (T := T) r e), fun f d z => ?_⟩
  obtain ⟨v, l, i⟩ := q f d z
  exact ⟨v, l, x.isD r i⟩
theorem Fits.step (f : Fits T m ρ h σ H) (r : Rep T.X.K T.X.w H1 m1 h1) (x : Ext H m h H1 m1 h1) : Fits T m1 ρ h1 σ H1 :=
  ⟨r, fun i d e n => let ⟨v, e1, q⟩ := f.env i d e n; ⟨v, e1, x.isD f.rep q⟩, fun y e => let ⟨a, b⟩ := f.exc y e; ⟨a, b.step f.rep x⟩, f.len⟩
theorem Post.step {r : Rs α} {Q : β → Hp → Prop} (x : Ext H m h H1 m1 h1) (p : Post T R m h H σ r Q) : Post T R m1 h1 H1 σ r Q := by
  cases r with
  | ok d h' => exact fun v H' m' a b c => p v H' m' a (x.trans b) c
  | ex c fs h' => exact fun cls dd H' m' a b c d => p cls dd H' m' a (x.trans b) c d
  | no => exact p
theorem Post.bind {r : Rs α} {k : α → Mh → Rs γ} {Q : δ → Hp → Prop} {Q1 : β → Hp → Prop} (p : Post T R' m h H σ (r.bind k) Q)
    (f : ∀ a h1 b H1 m1, Rep T.X.K T.X.w H1 m1 h1 → Ext H m h H1 m1 h1 → R H1 m1 h1 b a → Post T R' m1 h1 H1 σ (k a h1) Q → Q1 b H1) : Post T R m h H σ r Q1 := by
  cases r with
  | ok d h' => exact fun v H' m' a b c => f d h' v H' m' a b c (Post.step b p)
  | ex c fs h' => exact p
  | no => exact p
theorem Post.mono {r : Rs α} {Q Q1 : β → Hp → Prop} (p : Post T R m h H σ r Q) (f : ∀ a h1 b H1 m1, r = .ok a h1 → Rep T.X.K T.X.w H1 m1 h1 → Ext H m h H1 m1 h1 → R H1 m1 h1 b a → Q b H1 → Q1 b H1) : Post T R m h H σ r Q1 := by
  cases r with
  | ok d h' => exact fun v H' m' a b c => f d h' v H' m' rfl a b c (p v H' m' a b c)
  | ex c fs h' => exact p
  | no => exact p
/-- the value is there, nothing has moved -/
theorem Post.here {a : α} {Q : β → Hp → Prop} {b : β} (p : Post T R m h H σ (.ok a h) Q) (r : Rep T.X.K T.X.w H m h) (q : R H m h b a) : Q b H := p b H m r .refl q
end

/-! ### the judgements -/
structure WE (X : Cx) (e : Expr)  (σ : L2.St) (H : Hp) (Q : VK) : Prop where
  run : ∀ (pins : List (Addr × Obj)) (s : Shared), Inv X pins σ H s → wpAny (model X.prog X.w) X.A (eval e X.env) (EP X pins σ Q) X.xe s
structure WT (X : Cx) (e : Expr)  (σ : L2.St) (H : Hp) (Q : Bool → Hp → Prop) : Prop where
  run : ∀ (pins : List (Addr × Obj)) (s : Shared), Inv X pins σ H s → wpAny (model X.prog X.w) X.A (isTrue e X.env (eval e X.env)) (TP X pins σ Q) X.xe s
structure WW (X : Cx) (e : Expr)  (σ : L2.St) (H : Hp) (Q : Bool → Hp → Prop) : Prop where
  run : ∀ (whole : Sem Value) (pins : List (Addr × Obj)) (s : Shared), Inv X pins σ H s → wpAny (model X.prog X.w) X.A (isTrue e X.env whole) (TP X pins σ Q) X.xe s
structure WA (X : Cx) (es : List Expr)  (σ : L2.St) (H : Hp) (Q : List V → Hp → Prop) : Prop where
  run : ∀ (pos : Pos) (pins : List (Addr × Obj)) (s : Shared), Inv X pins σ H s → wpAny (model X.prog X.w) X.A (spliced (backTo pos (starEach es X.env))) (AP X pins σ Q) X.xe s
theorem we_pe {X : Cx} {e : Expr} : PE X e (WE X e) := ⟨fun pins s _ _ _ I h => h.run pins s I⟩
theorem wt_pt {X : Cx} {e : Expr} : PT X e (WT X e) := ⟨fun pins s _ _ _ I h => h.run pins s I⟩
theorem ww_pw {X : Cx} {e : Expr} : PW X e (WW X e) := ⟨fun wh pins s _ _ _ I h => h.run wh pins s I⟩
theorem wa_pa {X : Cx} {es : List Expr} : PA X es (WA X es) := ⟨fun pos pins s _ _ _ I h => h.run pos pins s I⟩
/-- what a callee lets out is taken; what leaves the code passes -/
structure Tk (T : Tx) : Prop where
  t : Takes T.X T.W
structure Pw (T : Tx) : Prop where
  p : PassesOwn (model T.X.prog T.X.w) T.X.A T.X.env T.X.xe
theorem WE.of {X : Cx} {e : Expr} {t : TE} (p : PE X e t) {σ : L2.St} {H : Hp} {Q : VK} (h : t σ H Q) : WE X e σ H Q := .mk fun pins s I => p.run pins s σ H Q I h
theorem WT.of {X : Cx} {e : Expr} {t : TT} (p : PT X e t) {σ : L2.St} {H : Hp} {Q : Bool → Hp → Prop} (h : t σ H Q) : WT X e σ H Q := .mk fun pins s I => p.run pins s σ H Q I h
theorem WW.of {X : Cx} {e : Expr} {t : TT} (p : PW X e t) {σ : L2.St} {H : Hp} {Q : Bool → Hp → Prop} (h : t σ H Q) : WW X e σ H Q := .mk fun wh pins s I => p.run wh pins s σ H Q I h
theorem WA.of {X : Cx} {e : List Expr} {t : TA} (p : PA X e t) {σ : L2.St} {H : Hp} {Q : List V → Hp → Prop} (h : t σ H Q) : WA X e σ H Q := .mk fun pos pins s I => p.run pos pins s σ H Q I h

def JE (T : Tx) (e : Expr) (f : EE) : Prop := ∀ σ H m h ρ Q, Fits T m ρ h σ H → Post T (RD T) m h H σ (f ρ h) Q → WE T.X e σ H Q
def JT (T : Tx) (e : Expr) (f : EB) : Prop := ∀ σ H m h ρ Q, Fits T m ρ h σ H → Post T (RB T) m h H σ (f ρ h) Q → WT T.X e σ H Q
def JW (T : Tx) (e : Expr) (f : EB) : Prop := ∀ σ H m h ρ Q, Fits T m ρ h σ H → Post T (RB T) m h H σ (f ρ h) Q → WW T.X e σ H Q
def JA (T : Tx) (e : List Expr) (f : EL) : Prop := ∀ σ H m h ρ Q, Fits T m ρ h σ H → Post T (RL T) m h H σ (f ρ h) Q → WA T.X e σ H Q
section
variable {T : Tx} {e a b c : Expr} {es rest : List Expr} {f fa fb fc : EE} {ga gb gc : EB} {fl : EL} {pos : Pos}

/-! ### names and constants -/
def lk : List D → Nat → D
  | [], _ => .u
  | d :: _, 0 => d
  | _ :: r, i + 1 => lk r i
def eVar (i : Nat) : EE := fun ρ h => match lk ρ i with
  | .u => .no
  | d => .ok d h
def eC (d : D) : EE := fun _ h => .ok d h
theorem lk_some : ∀ {ρ : List D} {i : Nat}, lk ρ i ≠ .u → ρ[i]? = some (lk ρ i)
  | [], _, h => absurd rfl h
  | _ :: _, 0, _ => rfl
  | _ :: r, i + 1, h => by
    rw [List.getElem?_cons_succ]
    exact lk_some (ρ := r) (i := i) h
theorem je_var (i : Nat) {x : Str} (hN : T.X.N[i]? = some x := by rfl) (hv : Vis T.X.env.scope x := by first | exact Or.inl rfl | exact Or.inr (Or.inl rfl) | exact Or.inr (Or.inr rfl)) (hd : (x == ("__debug__" : Str)) = false := by decide) (hcd : (x == ("__classdict__" : Str)) = false := by decide) :
    JE T (.Name x pos) (eVar i) := fun σ H m h ρ Q F p => by
    have hu : lk ρ i ≠ .u := fun z => by unfold eVar at p; rw [z] at p; exact p.elim
    obtain ⟨v, e1, q⟩ := F.env i _ (lk_some hu) hu
    have p' : Post T (RD T) m h H σ (.ok (lk ρ i) h) Q := by
      unfold eVar at p
      cases e : lk ρ i <;> rw [e] at p hu <;> first | exact p | exact absurd rfl hu
    exact WE.of (pe_var hN hv hd hcd) ⟨v, e1, p'.here F.rep q⟩
theorem je_int {i : Int} {j} : JE T (.Constant (.int i) j pos) (eC (.int i)) := fun σ H m h ρ Q F p => WE.of pe_int (p.here F.rep (.int i))
theorem je_str {i : Str} {j} (l : List Nat) (e : i = ⟨l.toArray⟩ := by rfl) : JE T (.Constant (.str i) j pos) (eC (.str l)) := fun σ H m h ρ Q F p => WE.of pe_str (p.here F.rep (by rw [e]; exact .str l))
theorem je_bl {i : Bool} {j} : JE T (.Constant (.bool i) j pos) (eC (.bl i)) := fun σ H m h ρ Q F p => WE.of pe_bl (p.here F.rep (.bl i))
theorem je_non {j} : JE T (.Constant .none j pos) (eC .non) := fun σ H m h ρ Q F p => WE.of pe_non (p.here F.rep .non)
/-- a module's constant -/
theorem je_glob {x : Str} {v : V} {u : Value} {d : D} (hg : Gl T.X x) (hm : T.X.mg x = some u) (r : RelV v u) (k : ∀ H m h, RD T H m h v d) (hd : (x == ("__debug__" : Str)) = false := by decide) : JE T (.Name x pos) (eC d) :=
  fun σ H m h ρ Q F p => WE.of (pe_glob hg hm r hd) (p.here F.rep (k H m h))

/-! ### operators by values -/
structure wop2 (X : Cx) (f : Value → Value → Sem Value)  (x y : V) (H : Hp) (Q : VK) : Prop where
  run : ∀ (pins : List (Addr × Obj)) (s : Shared) (σ : L2.St) (v u : Value), Inv X pins σ H s → RelV x v → RelV y u → wpAny (model X.prog X.w) X.A (f v u) (EP X pins σ Q) X.xe s
theorem wop2_ok {X : Cx} {f : Value → Value → Sem Value} : OpR X f (wop2 X f) := fun pins s σ _ _ _ v u _ I r1 r2 h => h.run pins s σ v u I r1 r2
abbrev O2 := D → D → Mh → Rs D
def OpS (T : Tx) (f : Value → Value → Sem Value) (g : O2) : Prop := ∀ H m h σ x y dx dy Q, Rep T.X.K T.X.w H m h → RD T H m h x dx → RD T H m h y dy → Post T (RD T) m h H σ (g dx dy h) Q → wop2 T.X f x y H Q
theorem opS_of {f : Value → Value → Sem Value} {r : R2} {g : O2} (hr : OpR T.X f r) (i : ∀ H m h σ x y dx dy Q, Rep T.X.K T.X.w H m h → RD T H m h x dx → RD T H m h y dy → Post T (RD T) m h H σ (g dx dy h) Q → r x y H Q) : OpS T f g :=
  fun H m h σ x y dx dy Q r1 r2 r3 p => .mk fun pins s σ' v u I q1 q2 => hr pins s σ' H x y v u Q I q1 q2 (i H m h σ x y dx dy Q r1 r2 r3 p)
def eBin (g : O2) (fa fb : EE) : EE := fun ρ h => (fa ρ h).bind fun x h1 => (fb ρ h1).bind fun y h2 => g x y h2
theorem bin2 {f : Value → Value → Sem Value} {g : O2} (ho : OpS T f g) (ha : JE T a fa) (hb : JE T b fb) {σ : L2.St} {H : Hp} {m : List Addr} {h : Mh} {ρ : List D} {Q : VK} (F : Fits T m ρ h σ H) (p : Post T (RD T) m h H σ (eBin g fa fb ρ h) Q) :
    tOp (wop2 T.X f) (WE T.X a) (WE T.X b) σ H Q :=
  ha σ H m h ρ _ F (p.bind fun x h1 vx H1 m1 r1 x1 q1 p1 => hb σ H1 m1 h1 ρ _ (F.step r1 x1) (p1.bind fun y h2 vy H2 m2 r2 x2 q2 p2 => ho H2 m2 h2 σ vx vy x y Q r2 (x2.isD r1 q1) q2 p2))
theorem je_bin {op : Operator} {g : O2} (ho : OpS T (binaryOp op) g) (ha : JE T a fa) (hb : JE T b fb) : JE T (.BinOp a op b pos) (eBin g fa fb) :=
  fun σ H m h ρ Q F p => WE.of (pe_op wop2_ok we_pe we_pe) (bin2 ho ha hb F p)
structure wop1 (X : Cx) (f : Value → Sem Value)  (x : V) (H : Hp) (Q : VK) : Prop where
  run : ∀ (pins : List (Addr × Obj)) (s : Shared) (σ : L2.St) (v : Value), Inv X pins σ H s → RelV x v → wpAny (model X.prog X.w) X.A (f v) (EP X pins σ Q) X.xe s
abbrev O1 := D → Mh → Rs D
def UnS (T : Tx) (f : Value → Sem Value) (g : O1) : Prop := ∀ H m h σ x dx Q, Rep T.X.K T.X.w H m h → RD T H m h x dx → Post T (RD T) m h H σ (g dx h) Q → wop1 T.X f x H Q
def eUn (g : O1) (fa : EE) : EE := fun ρ h => (fa ρ h).bind fun x h1 => g x h1
theorem je_un {op : UnaryOp} {g : O1} (ho : UnS T (unaryOp op) g) (ha : JE T a fa) : JE T (.UnaryOp op a pos) (eUn g fa) :=
  fun σ H m h ρ Q F p => WE.of (pe_un (r := wop1 T.X (unaryOp op)) (fun pins s σ _ _ v _ I r h => h.run pins s σ v I r) we_pe) (ha σ H m h ρ _ F (p.bind fun x h1 vx H1 m1 r1 _ q1 p1 => ho H1 m1 h1 σ vx x Q r1 q1 p1))
/-- a comparison, as a value and as a test -/
theorem je_cmp {op : CmpOp} {g : O2} (ho : OpS T (compareOp op) g) (ha : JE T a fa) (hb : JE T b fb) (hm : behindInMarks op b = false := by first | exact nomark _ | with_unfolding_all rfl) : JE T (.Compare a [op] [b] pos) (eBin g fa fb) :=
  fun σ H m h ρ Q F p => WE.of (pe_cmpR wop2_ok we_pe we_pe hm) (bin2 ho ha hb F p)
def isB (d : D) (h : Mh) : Rs Bool := match d with
  | .bl b => .ok b h
  | _ => .no
def tBin (g : O2) (fa fb : EE) : EB := fun ρ h => (eBin g fa fb ρ h).bind isB
theorem Post.isB {r : Rs D} {m : List Addr} {h : Mh} {H : Hp} {σ : L2.St} {Q : Bool → Hp → Prop} (p : Post T (RB T) m h H σ (r.bind DL.isB) Q) : Post T (RD T) m h H σ r (fun x H' => ∃ k, x = .bl k ∧ Q k H') :=
  p.bind fun d h1 v H1 m1 r1 _ q1 p1 => by
    cases d with
    | bl k => cases q1; exact ⟨k, rfl, p1.here r1 rfl⟩
    | _ => exact p1.elim
theorem jt_cmp {op : CmpOp} {g : O2} (ho : OpS T (compareOp op) g) (ha : JE T a fa) (hb : JE T b fb) (hm : behindInMarks op b = false := by first | exact nomark _ | with_unfolding_all rfl) : JT T (.Compare a [op] [b] pos) (tBin g fa fb) :=
  fun σ H m h ρ Q F p => WT.of (pt_cmpR wop2_ok we_pe we_pe hm) (bin2 ho ha hb F p.isB)
/-- a op1 b op2 c -/
def eChain (g g' : O2) (fa fb fc : EE) : EE := fun ρ h => (fa ρ h).bind fun x h1 => (fb ρ h1).bind fun y h2 => (g x y h2).bind fun z h3 => (isB z h3).bind fun k h4 => match k with
  | true => (fc ρ h4).bind fun w h5 => g' y w h5
  | false => .ok (.bl false) h4
theorem chain2 {f f' : Value → Value → Sem Value} {g g' : O2} (ho : OpS T f g) (ho' : OpS T f' g') (ha : JE T a fa) (hb : JE T b fb) (hc : JE T c fc) {σ : L2.St} {H : Hp} {m : List Addr} {h : Mh} {ρ : List D} {Q : VK} (F : Fits T m ρ h σ H)
    (p : Post T (RD T) m h H σ (eChain g g' fa fb fc ρ h) Q) : tChain (wop2 T.X f) (wop2 T.X f') (WE T.X a) (WE T.X b) (WE T.X c) σ H Q :=
  ha σ H m h ρ _ F (p.bind fun x h1 vx H1 m1 r1 x1 q1 p1 => hb σ H1 m1 h1 ρ _ (F.step r1 x1) (p1.bind fun y h2 vy H2 m2 r2 x2 q2 p2 => ho H2 m2 h2 σ vx vy x y _ r2 (x2.isD r1 q1) q2
    (p2.bind fun z h3 vz H3 m3 r3 x3 q3 p3 => by
      cases z with
      | bl k =>
        cases q3
        refine ⟨k, rfl, ?_⟩
        cases k with
        | true =>
          rw [if_pos rfl]
          exact hc σ H3 m3 h3 ρ _ (((F.step r1 x1).step r2 x2).step r3 x3) (Post.bind p3 fun w' h5 vw H5 m5 r5 x5 q5 p5 => ho' H5 m5 h5 σ vy vw y w' Q r5 (x5.isD r3 (x3.isD r2 q2)) q5 p5)
        | false =>
          rw [if_neg Bool.false_ne_true]
          exact Post.here p3 r3 (.bl false)
      | _ => exact p3.elim)))
theorem je_chain {op op' : CmpOp} {g g' : O2} (ho : OpS T (compareOp op) g) (ho' : OpS T (compareOp op') g') (ha : JE T a fa) (hb : JE T b fb) (hc : JE T c fc) (hm : lastMarks [op, op'] [b, c] = false := by with_unfolding_all rfl) :
    JE T (.Compare a [op, op'] [b, c] pos) (eChain g g' fa fb fc) := fun σ H m h ρ Q F p => WE.of (pe_chain wop2_ok wop2_ok we_pe we_pe we_pe hm) (chain2 ho ho' ha hb hc F p)
theorem jt_chain {op op' : CmpOp} {g g' : O2} (ho : OpS T (compareOp op) g) (ho' : OpS T (compareOp op') g') (ha : JE T a fa) (hb : JE T b fb) (hc : JE T c fc) (hm : lastMarks [op, op'] [b, c] = false := by with_unfolding_all rfl) :
    JT T (.Compare a [op, op'] [b, c] pos) (fun ρ h => (eChain g g' fa fb fc ρ h).bind isB) := fun σ H m h ρ Q F p => WT.of (pt_chain wop2_ok wop2_ok we_pe we_pe we_pe hm) (chain2 ho ho' ha hb hc F p.isB)

/-! ### tests, and, or, not -/
def truD (d : D) (h : Mh) : Rs Bool := match d with
  | .non => .ok false h
  | .bl b => .ok b h
  | .int i => .ok (i != 0) h
  | .str s => match decide (s.length ≤ sizeLine) with
    | true => .ok (!s.isEmpty) h
    | false => .no
  | .tup ds => .ok (!ds.isEmpty) h
  | .lst ds => .ok (!ds.isEmpty) h
  | .scr ns => .ok (!ns.isEmpty) h
  | .ref n => match h[n]? with
    | some (.lst ds) => .ok (!ds.isEmpty) h
    | _ => .no
  | _ => .no
theorem IsDs.isEmpty {K : PySem.W.Frag} {w : World} {H : Hp} {L : Addr → Prop} {m : List Addr} {vs : List V} {ds : List D} (q : IsDs K w H L m vs ds) : vs.isEmpty = ds.isEmpty := by cases q <;> rfl
theorem IsDs.length {K : PySem.W.Frag} {w : World} {H : Hp} {L : Addr → Prop} {m : List Addr} : ∀ {ds : List D} {vs : List V}, IsDs K w H L m vs ds → vs.length = ds.length
  | [], _, q => by cases q; rfl
  | _ :: _, _, q => by
    cases q with
    | cons a b => rw [List.length_cons, List.length_cons, b.length]
theorem tru_ok' {m : List Addr} {h : Mh} {H : Hp} {σ : L2.St} {x : V} {d : D} {Q : Bool → Hp → Prop} (r : Rep T.X.K T.X.w H m h) (q : RD T H m h x d) (p : Post T (RB T) m h H σ (truD d h) Q) : ∃ k, TruV T.X.K x H k ∧ Q k H := by
  cases q with
  | non => exact ⟨false, rfl, p.here r rfl⟩
  | bl b => exact ⟨b, rfl, p.here r rfl⟩
  | int i => exact ⟨_, rfl, Post.here p r rfl⟩
  | str s =>
    have p2 : Post T (RB T) m h H σ (match decide (s.length ≤ sizeLine) with
      | true => .ok (!s.isEmpty) h
      | false => .no) Q := p
    by_cases hs : s.length ≤ sizeLine
    · rw [decide_eq_true hs] at p2
      exact ⟨_, ⟨hs, rfl⟩, Post.here p2 r (by cases s <;> rfl)⟩
    · rw [decide_eq_false hs] at p2
      exact p2.elim
  | tup e z => exact ⟨_, .inr (.inl ⟨_, e, rfl⟩), Post.here p r (by rw [z.isEmpty])⟩
  | lst e z => exact ⟨_, .inl ⟨_, e.sq, rfl⟩, Post.here p r (by rw [z.isEmpty])⟩
  | dic e z => exact p.elim
  | @scr _ ns e => exact ⟨_, .inl ⟨_, e.sq, rfl⟩, Post.here p r (by cases ns <;> rfl)⟩
  | @ref n a e =>
    unfold truD at p
    cases g : h[n]? with
    | none => simp only [g] at p; exact p.elim
    | some o =>
      have hh := r.ob n a o e g
      cases o with
      | lst ds =>
        simp only [g] at p
        obtain ⟨xs, e1, z⟩ := hh
        exact ⟨_, .inl ⟨xs, .of e1, rfl⟩, Post.here p r (by rw [z.isEmpty])⟩
      | dic _ => simp only [g] at p; exact p.elim
      | dead => simp only [g] at p; exact p.elim
def tTru (fa : EE) : EB := fun ρ h => (fa ρ h).bind truD
theorem jt_tru (ha : JE T a fa) (he : ∀ whole, isTrue a T.X.env whole = (do let v ← whole; standAt a.pos; holding [v] (truthy v)) := by intro _; rfl) : JT T a (tTru fa) :=
  fun σ H m h ρ Q F p => WT.of (pt_truth we_pe he) (ha σ H m h ρ _ F (p.bind fun x h1 vx H1 m1 r1 _ q1 p1 => tru_ok' r1 q1 p1))
def tAndB (ga gb : EB) : EB := fun ρ h => (ga ρ h).bind fun k h1 => match k with
  | true => gb ρ h1
  | false => .ok false h1
def tOrB (ga gb : EB) : EB := fun ρ h => (ga ρ h).bind fun k h1 => match k with
  | true => .ok true h1
  | false => gb ρ h1
def tNotB (ga : EB) : EB := fun ρ h => (ga ρ h).bind fun k h1 => .ok (!k) h1
theorem JW.jt (h : JW T e ga) : JT T e ga := fun σ H m h' ρ Q F p => .mk fun pins s I => (h σ H m h' ρ Q F p).run _ pins s I
theorem jw_and1 (ha : JT T a ga) : JW T (.BoolOp .And [a] pos) ga := fun σ H m h ρ Q F p => WW.of (pw_and1 wt_pt) (ha σ H m h ρ Q F p)
theorem jw_or1 (ha : JT T a ga) : JW T (.BoolOp .Or [a] pos) ga := fun σ H m h ρ Q F p => WW.of (pw_or1 wt_pt) (ha σ H m h ρ Q F p)
theorem jw_and (ha : JT T a ga) (hb : JW T (.BoolOp .And (b :: rest) pos) gb) : JW T (.BoolOp .And (a :: b :: rest) pos) (tAndB ga gb) :=
  fun σ H m h ρ Q F p => WW.of (pw_and wt_pt ww_pw) (ha σ H m h ρ _ F (p.bind fun k h1 k' H1 m1 r1 x1 q1 p1 => by
    have q1' : k' = k := q1
    subst q1'
    cases k' with
    | true => rw [if_pos rfl]; exact hb σ H1 m1 h1 ρ Q (F.step r1 x1) p1
    | false => rw [if_neg Bool.false_ne_true]; exact Post.here p1 r1 rfl))
theorem jw_or (ha : JT T a ga) (hb : JW T (.BoolOp .Or (b :: rest) pos) gb) : JW T (.BoolOp .Or (a :: b :: rest) pos) (tOrB ga gb) :=
  fun σ H m h ρ Q F p => WW.of (pw_or wt_pt ww_pw) (ha σ H m h ρ _ F (p.bind fun k h1 k' H1 m1 r1 x1 q1 p1 => by
    have q1' : k' = k := q1
    subst q1'
    cases k' with
    | true => rw [if_pos rfl]; exact Post.here p1 r1 rfl
    | false => rw [if_neg Bool.false_ne_true]; exact hb σ H1 m1 h1 ρ Q (F.step r1 x1) p1))
theorem jt_not (ha : JT T a ga) : JT T (.UnaryOp .Not a pos) (tNotB ga) :=
  fun σ H m h ρ Q F p => WT.of (pt_not wt_pt) (ha σ H m h ρ _ F (p.bind fun k h1 k' H1 m1 r1 x1 q1 p1 => by
    have q1' : k' = k := q1
    subst q1'
    exact Post.here p1 r1 rfl))
/-- as values, of bools -/
def eAnd (fa fb : EE) : EE := fun ρ h => (fa ρ h).bind fun d h1 => (isB d h1).bind fun k h2 => match k with
  | true => fb ρ h2
  | false => .ok (.bl false) h2
def eOr (fa fb : EE) : EE := fun ρ h => (fa ρ h).bind fun d h1 => (isB d h1).bind fun k h2 => match k with
  | true => .ok (.bl true) h2
  | false => fb ρ h2
theorem je_one {op} (h : JE T a fa) : JE T (.BoolOp op [a] pos) fa := fun σ H m h' ρ Q F p => WE.of (pe_one we_pe) (h σ H m h' ρ Q F p)
theorem je_and (ha : JE T a fa) (hb : JE T (.BoolOp .And (b :: rest) pos) fb) : JE T (.BoolOp .And (a :: b :: rest) pos) (eAnd fa fb) :=
  fun σ H m h ρ Q F p => WE.of (pe_and we_pe we_pe) (ha σ H m h ρ _ F (p.bind fun d h1 v H1 m1 r1 x1 q1 p1 => by
    cases d with
    | bl k =>
      cases q1
      refine ⟨k, rfl, ?_⟩
      cases k with
      | true => rw [if_pos rfl]; exact hb σ H1 m1 h1 ρ Q (F.step r1 x1) p1
      | false => rw [if_neg Bool.false_ne_true]; exact Post.here p1 r1 (.bl false)
    | _ => exact p1.elim))
theorem je_or (ha : JE T a fa) (hb : JE T (.BoolOp .Or (b :: rest) pos) fb) : JE T (.BoolOp .Or (a :: b :: rest) pos) (eOr fa fb) :=
  fun σ H m h ρ Q F p => WE.of (pe_or we_pe we_pe) (ha σ H m h ρ _ F (p.bind fun d h1 v H1 m1 r1 x1 q1 p1 => by
    cases d with
    | bl k =>
      cases q1
      refine ⟨k, rfl, ?_⟩
      cases k with
      | true => rw [if_pos rfl]; exact Post.here p1 r1 (.bl true)
      | false => rw [if_neg Bool.false_ne_true]; exact hb σ H1 m1 h1 ρ Q (F.step r1 x1) p1
    | _ => exact p1.elim))
/-- not of a test, as a value -/
def eNot (fa : EE) : EE := fun ρ h => (fa ρ h).bind fun d h1 => (isB d h1).bind fun k h2 => .ok (.bl (!k)) h2
theorem je_not (ha : JE T a fa) : JE T (.UnaryOp .Not a pos) (eNot fa) :=
  fun σ H m h ρ Q F p => WE.of (pe_not we_pe) (ha σ H m h ρ _ F (p.bind fun d h1 v H1 m1 r1 x1 q1 p1 => by
    cases d with
    | bl k => cases q1; exact ⟨k, rfl, Post.here p1 r1 (.bl (!k))⟩
    | _ => exact p1.elim))
def eIf (g : EB) (fa fb : EE) : EE := fun ρ h => (g ρ h).bind fun k h1 => match k with
  | true => fa ρ h1
  | false => fb ρ h1
theorem je_if (hc : JT T c gc) (ha : JE T a fa) (hb : JE T b fb) : JE T (.IfExp c a b pos) (eIf gc fa fb) :=
  fun σ H m h ρ Q F p => WE.of (pe_ifExp wt_pt we_pe we_pe) (hc σ H m h ρ _ F (p.bind fun k h1 k' H1 m1 r1 x1 q1 p1 => by
    have q1' : k' = k := q1
    subst q1'
    cases k' with
    | true => rw [if_pos rfl]; exact ha σ H1 m1 h1 ρ Q (F.step r1 x1) p1
    | false => rw [if_neg Bool.false_ne_true]; exact hb σ H1 m1 h1 ρ Q (F.step r1 x1) p1))

/-! ### argument lists, displays -/
def aNil : EL := fun _ h => .ok [] h
def aCons (f : EE) (g : EL) : EL := fun ρ h => (f ρ h).bind fun d h1 => (g ρ h1).bind fun ds h2 => .ok (d :: ds) h2
theorem ja_nil : JA T [] aNil := fun σ H m h ρ Q F p => WA.of pa_nil (p.here F.rep .nil)
theorem ja_cons (ha : JE T a fa) (hr : JA T es fl) (hs : starEach (a :: es) T.X.env = (false, eval a T.X.env) :: starEach es T.X.env := by rfl) : JA T (a :: es) (aCons fa fl) :=
  fun σ H m h ρ Q F p => WA.of (pa_cons we_pe wa_pa hs) (ha σ H m h ρ _ F (p.bind fun d h1 v H1 m1 r1 x1 q1 p1 => hr σ H1 m1 h1 ρ _ (F.step r1 x1) (p1.bind fun ds h2 vs H2 m2 r2 x2 q2 p2 => Post.here p2 r2 (.cons (x2.isD r1 q1) q2))))
end
end DL

namespace DL
open PySem PySem.Spec PyProof.Rows L2

/-! ### the heap: a new object, a changed one -/
section
variable {K : PySem.W.Frag} {w : World} {H H' : Hp} {m m' : List Addr} {h h' : Mh} {p a : Addr} {o : HO} {ob : Ob} {n : Nat}
theorem Rep.tracked (r : Rep K w H m h) (e : m[n]? = some a) : ∃ o, H a = some o := by
  have hn : n < h.length := by rw [← r.len]; exact (List.getElem?_eq_some_iff.mp e).1
  have q := r.ob n a _ e (List.getElem?_eq_getElem hn)
  cases z : h[n] with
  | lst ds => rw [z] at q; obtain ⟨xs, e, _⟩ := q; exact ⟨_, e⟩
  | dic kds => rw [z] at q; obtain ⟨xs, e, _⟩ := q; exact ⟨_, e⟩
  | dead => rw [z] at q; exact q
theorem Rep.notMem (r : Rep K w H m h) (hp : H p = none) : p ∉ m := fun hm => by
  obtain ⟨n, hn, e⟩ := List.mem_iff_getElem.mp hm
  obtain ⟨o, q⟩ := r.tracked (n := n) (by rw [List.getElem?_eq_getElem hn, e])
  rw [hp] at q; cases q
theorem ObD.ext (r : Rep K w H m h) (x : Ext H m h H' m' h') (k : ∀ o, H a = some o → H' a = some o) (q : ObD K w H (Live m h) m a ob) : ObD K w H' (Live m' h') m' a ob := by
  cases ob with
  | lst ds => obtain ⟨xs, e, z⟩ := q; exact ⟨xs, k _ e, x.isDs r z⟩
  | dic kds => obtain ⟨xs, e, z⟩ := q; exact ⟨xs, k _ e, x.isKs r z⟩
  | dead => obtain ⟨o, e⟩ := q; exact ⟨o, k _ e⟩
theorem Ext.new (r : Rep K w H m h) (hp : H p = none) : Ext H m h (upd H p o) m h :=
  ⟨fun _ _ e => e, fun a u e _ => by rw [upd_ne (ne_of_none e hp)]; exact e, fun a u e => ⟨u, by rw [upd_ne (ne_of_none e hp)]; exact e⟩, fun _ l => .inl l⟩
theorem Rep.new (r : Rep K w H m h) (hp : H p = none) : Rep K w (upd H p o) m h :=
  ⟨r.len, r.nd, fun n a ob e1 e2 => ObD.ext r (Ext.new r hp) (fun u e => by rw [upd_ne (ne_of_none e hp)]; exact e) (r.ob n a ob e1 e2)⟩
theorem Rep.notLive (r : Rep K w H m h) (hp : H p = none) : ¬ Live m h p := fun l => by
  rcases r.liveLst l with ⟨xs, e⟩ | ⟨xs, e⟩ <;> (rw [hp] at e; cases e)
theorem live_app {b : Addr} (hl : m.length = h.length) (l : Live (m ++ [p]) (h ++ [ob]) b) : Live m h b ∨ b = p := by
  obtain ⟨n, o, e1, e2, ne⟩ := l
  by_cases hn : n < m.length
  · rw [List.getElem?_append_left hn] at e1
    rw [List.getElem?_append_left (by omega)] at e2
    exact .inl ⟨n, o, e1, e2, ne⟩
  · rw [List.getElem?_append_right (by omega)] at e1
    cases z : n - m.length with
    | zero => rw [z] at e1; exact .inr (Option.some.inj e1).symm
    | succ k => rw [z] at e1; simp at e1
theorem Ext.alloc (r : Rep K w H m h) (hp : H p = none) : Ext H m h (upd H p o) (m ++ [p]) (h ++ [ob]) :=
  ⟨fun n a e => by rw [List.getElem?_append_left (List.getElem?_eq_some_iff.mp e).1]; exact e, fun a u e _ => by rw [upd_ne (ne_of_none e hp)]; exact e, fun a u e => ⟨u, by rw [upd_ne (ne_of_none e hp)]; exact e⟩,
    fun b l => by
      rcases live_app r.len l with z | z
      · exact .inl z
      · exact .inr (z ▸ hp)⟩
theorem Rep.alloc (r : Rep K w H m h) (hp : H p = none) (q : ObD K w (upd H p o) (Live (m ++ [p]) (h ++ [ob])) (m ++ [p]) p ob) : Rep K w (upd H p o) (m ++ [p]) (h ++ [ob]) := by
  refine ⟨by rw [List.length_append, List.length_append, r.len]; rfl, ?_, fun n a u e1 e2 => ?_⟩
  · rw [List.nodup_append]
    refine ⟨r.nd, by simp, fun a ha b hb => ?_⟩
    have hb' : b = p := by simpa using hb
    rw [hb']
    rintro rfl
    exact r.notMem hp ha
  · by_cases hn : n < m.length
    · rw [List.getElem?_append_left hn] at e1
      rw [List.getElem?_append_left (by rw [← r.len]; exact hn)] at e2
      exact ObD.ext r (Ext.alloc r hp) (fun u e => by rw [upd_ne (ne_of_none e hp)]; exact e) (r.ob n a u e1 e2)
    · have hl := r.len
      rw [List.getElem?_append_right (by omega)] at e1
      rw [List.getElem?_append_right (by omega)] at e2
      rw [← hl] at e2
      cases z : n - m.length with
      | zero =>
        rw [z] at e1 e2
        have ea : p = a := Option.some.inj e1
        have eo : ob = u := Option.some.inj e2
        subst ea; subst eo
        exact q
      | succ k => rw [z] at e1; simp at e1
theorem live_put {b : Addr} {o0 : Ob} (e : h[n]? = some o0) (hd : o0 ≠ Ob.dead) (l : Live m (h.set n ob) b) : Live m h b := by
  obtain ⟨k, u, e1, e2, ne⟩ := l
  by_cases hk : n = k
  · subst hk
    exact ⟨n, o0, e1, e, hd⟩
  · rw [List.getElem?_set_ne hk] at e2
    exact ⟨k, u, e1, e2, ne⟩
theorem Ext.put {o0 : Ob} (r : Rep K w H m h) (em : m[n]? = some a) (e : h[n]? = some o0) (hd : o0 ≠ Ob.dead) : Ext H m h (upd H a o) m (h.set n ob) :=
  ⟨fun _ _ e => e, fun b u q nl => by
      have : b ≠ a := fun z => nl (z ▸ ⟨n, o0, em, e, hd⟩)
      rw [upd_ne this]; exact q, fun b u q => by
      by_cases z : b = a
      · exact ⟨o, by rw [z, upd_same]⟩
      · exact ⟨u, by rw [upd_ne z]; exact q⟩, fun b l => .inl (live_put e hd l)⟩
theorem Rep.put {o0 : Ob} (r : Rep K w H m h) (em : m[n]? = some a) (e : h[n]? = some o0) (hd : o0 ≠ Ob.dead) (q : ObD K w (upd H a o) (Live m (h.set n ob)) m a ob) : Rep K w (upd H a o) m (h.set n ob) := by
  refine ⟨by rw [List.length_set]; exact r.len, r.nd, fun k b u e1 e2 => ?_⟩
  by_cases hk : n = k
  · subst hk
    rw [em] at e1; cases e1
    rw [List.getElem?_set_self (List.getElem?_eq_some_iff.mp e).1] at e2
    cases e2
    exact q
  · rw [List.getElem?_set_ne hk] at e2
    have hb : b ≠ a := fun z => by
      subst z
      obtain ⟨h1, q1⟩ := List.getElem?_eq_some_iff.mp em
      obtain ⟨h2, q2⟩ := List.getElem?_eq_some_iff.mp e1
      exact hk ((List.getElem_inj r.nd).mp (q1.trans q2.symm))
    exact ObD.ext r (Ext.put r em e hd) (fun u q => by rw [upd_ne hb]; exact q) (r.ob k b u e1 e2)
/-- a live object is let go: nobody changes it any more -/
theorem Ext.kill {o0 : Ob} (e : h[n]? = some o0) (hd : o0 ≠ Ob.dead) : Ext H m h H m (h.set n .dead) :=
  ⟨fun _ _ e => e, fun _ _ e _ => e, fun _ u e => ⟨u, e⟩, fun b l => .inl (live_put e hd l)⟩
theorem Rep.kill {o0 : Ob} (r : Rep K w H m h) (em : m[n]? = some a) (e : h[n]? = some o0) (hd : o0 ≠ Ob.dead) : Rep K w H m (h.set n .dead) := by
  refine ⟨by rw [List.length_set]; exact r.len, r.nd, fun k b u e1 e2 => ?_⟩
  by_cases hk : n = k
  · subst hk
    rw [List.getElem?_set_self (List.getElem?_eq_some_iff.mp e).1] at e2
    cases e2
    exact r.tracked e1
  · rw [List.getElem?_set_ne hk] at e2
    exact ObD.ext r (Ext.kill e hd) (fun u q => q) (r.ob k b u e1 e2)
end
section
variable {T : Tx} {m : List Addr} {h : Mh} {H : Hp} {σ : L2.St} {p : Addr} {o : HO} {Q : VK} {d : D}
/-- a value's end: a new tuple, a new list that nobody changes -/
theorem Post.new {v : V} (q : Post T (RD T) m h H σ (.ok d h) Q) (r : Rep T.X.K T.X.w H m h) (hp : H p = none) (i : RD T (upd H p o) m h v d) : Q v (upd H p o) := q v _ m (r.new hp) (Ext.new r hp) i
theorem isTup {xs : List V} {ds : List D} (r : Rep T.X.K T.X.w H m h) (hp : H p = none) (i : RL T H m h xs ds) : RD T (upd H p (.tup xs)) m h (.ref p) (.tup ds) := .tup (.of upd_same) ((Ext.new r hp).isDs r i)
theorem isLst {xs : List V} {ds : List D} (r : Rep T.X.K T.X.w H m h) (hp : H p = none) (i : RL T H m h xs ds) : RD T (upd H p (.lst xs)) m h (.ref p) (.lst ds) :=
  .lst ⟨upd_same, r.notLive hp⟩ ((Ext.new r hp).isDs r i)
end

/-! ### what a sequence's value stands for -/
section
variable {K : PySem.W.Frag} {w : World} {H : Hp} {L : Addr → Prop} {m : List Addr}
theorem isDs_ints : ∀ ns : List Int, IsDs K w H L m (ns.map V.int) (ns.map D.int)
  | [] => .nil
  | n :: ns => .cons (.int n) (isDs_ints ns)
end
/-- the items of a list, whoever may change it -/
def lstOf (d : D) (h : Mh) : Option (List D) := match d with
  | .lst ds => some ds
  | .scr ns => some (ns.map D.int)
  | .ref n => match h[n]? with
    | some (.lst ds) => some ds
    | _ => none
  | _ => none
section
variable {T : Tx} {m : List Addr} {h : Mh} {H : Hp} {x : V} {d : D} {ds : List D}
theorem lstOf_ok (r : Rep T.X.K T.X.w H m h) (q : RD T H m h x d) (e : lstOf d h = some ds) : ∃ a xs, x = .ref a ∧ SqL T.X.K H a xs ∧ RL T H m h xs ds := by
  cases q with
  | lst e1 z => cases e; exact ⟨_, _, rfl, e1.sq, z⟩
  | scr e1 => cases e; exact ⟨_, _, rfl, e1.sq, isDs_ints _⟩
  | @ref n a e1 =>
    unfold lstOf at e
    cases g : h[n]? with
    | none => simp only [g] at e; cases e
    | some o =>
      cases o with
      | lst ys =>
        simp only [g] at e
        cases e
        obtain ⟨xs, e2, z⟩ := r.ob n a _ e1 g
        exact ⟨_, xs, rfl, .of e2, z⟩
      | dic _ => simp only [g] at e; cases e
      | dead => simp only [g] at e; cases e
  | _ => cases e
/-- .. the script left out: tracked -/
def lstH (d : D) (h : Mh) : Option (List D) := match d with
  | .scr _ => none
  | d => lstOf d h
theorem lstH_ok (r : Rep T.X.K T.X.w H m h) (q : RD T H m h x d) (e : lstH d h = some ds) : ∃ a xs, x = .ref a ∧ H a = some (.lst xs) ∧ RL T H m h xs ds := by
  cases q with
  | lst e1 z => cases e; exact ⟨_, _, rfl, e1.1, z⟩
  | @ref n a e1 =>
    have e' : lstOf (.ref n) h = some ds := e
    unfold lstOf at e'
    cases g : h[n]? with
    | none => simp only [g] at e'; cases e'
    | some o =>
      cases o with
      | lst ys =>
        simp only [g] at e'
        cases e'
        obtain ⟨xs, e2, z⟩ := r.ob n a _ e1 g
        exact ⟨_, xs, rfl, e2, z⟩
      | dic _ => simp only [g] at e'; cases e'
      | dead => simp only [g] at e'; cases e'
  | _ => cases e
/-- a live list -/
theorem lst_at (r : Rep T.X.K T.X.w H m h) {n : Nat} (q : RD T H m h x (.ref n)) (e : h[n]? = some (.lst ds)) : ∃ a xs, x = .ref a ∧ m[n]? = some a ∧ H a = some (.lst xs) ∧ RL T H m h xs ds := by
  cases q with
  | ref e1 =>
    obtain ⟨xs, e2, z⟩ := r.ob n _ _ e1 e
    exact ⟨_, xs, rfl, e1, e2, z⟩
end
section
variable {K : PySem.W.Frag} {w : World} {H : Hp} {L : Addr → Prop} {m : List Addr}
theorem IsDs.append : ∀ {ds es : List D} {xs ys : List V}, IsDs K w H L m xs ds → IsDs K w H L m ys es → IsDs K w H L m (xs ++ ys) (ds ++ es)
  | [], _, _, _, a, b => by cases a; exact b
  | _ :: _, _, _, _, a, b => by cases a with | cons a c => exact .cons a (c.append b)
theorem IsDs.get : ∀ {ds : List D} {xs : List V} {i : Nat} {d : D}, IsDs K w H L m xs ds → ds[i]? = some d → ∃ x, xs[i]? = some x ∧ IsD K w H L m x d
  | [], _, _, _, _, e => by simp at e
  | _ :: _, _, 0, _, a, e => by
    cases a with
    | cons a c => simp at e; subst e; exact ⟨_, rfl, a⟩
  | _ :: _, _, i + 1, _, a, e => by
    cases a with
    | cons a c =>
      obtain ⟨x, e1, q⟩ := c.get (i := i) (by simpa using e)
      exact ⟨x, by simpa using e1, q⟩
theorem IsDs.take : ∀ {ds : List D} {xs : List V} (n : Nat), IsDs K w H L m xs ds → IsDs K w H L m (xs.take n) (ds.take n)
  | _, _, 0, _ => .nil
  | [], _, _ + 1, a => by cases a; exact .nil
  | _ :: _, _, n + 1, a => by cases a with | cons a c => exact .cons a (c.take n)
theorem IsDs.drop : ∀ {ds : List D} {xs : List V} (n : Nat), IsDs K w H L m xs ds → IsDs K w H L m (xs.drop n) (ds.drop n)
  | _, _, 0, a => a
  | [], _, _ + 1, a => by cases a; exact .nil
  | _ :: _, _, n + 1, a => by cases a with | cons a c => exact c.drop n
theorem IsDs.set : ∀ {ds : List D} {xs : List V} {x : V} {d : D} (n : Nat), IsDs K w H L m xs ds → IsD K w H L m x d → IsDs K w H L m (xs.set n x) (ds.set n d)
  | [], _, _, _, _, a, _ => by cases a; exact .nil
  | _ :: _, _, _, _, 0, a, b => by cases a with | cons a c => exact .cons b c
  | _ :: _, _, _, _, n + 1, a, b => by cases a with | cons a c => exact .cons a (c.set n b)
theorem IsDs.dropLast : ∀ {ds : List D} {xs : List V}, IsDs K w H L m xs ds → IsDs K w H L m xs.dropLast ds.dropLast
  | [], _, a => by cases a; exact .nil
  | [_], _, a => by cases a with | cons a c => cases c; exact .nil
  | _ :: _ :: _, _, a => by
    cases a with
    | cons a c => cases c with | cons b c => exact .cons a (IsDs.dropLast (.cons b c))
theorem IsDs.erase : ∀ {ds : List D} {xs : List V} (n : Nat), IsDs K w H L m xs ds → IsDs K w H L m (xs.eraseIdx n) (ds.eraseIdx n)
  | [], _, _, a => by cases a; exact .nil
  | _ :: _, _, 0, a => by cases a with | cons a c => exact c
  | _ :: _, _, n + 1, a => by cases a with | cons a c => exact .cons a (c.erase n)
theorem IsDs.rev {ds : List D} {xs : List V} (a : IsDs K w H L m xs ds) : IsDs K w H L m xs.reverse ds.reverse := by
  have go : ∀ {ds : List D} {xs : List V}, IsDs K w H L m xs ds → IsDs K w H L m xs.reverse ds.reverse := by
    intro ds
    induction ds with
    | nil => intro xs a; cases a; exact .nil
    | cons d ds ih =>
      intro xs a
      cases a with
      | cons a c =>
        rw [List.reverse_cons, List.reverse_cons]
        exact (ih c).append (.cons a .nil)
  exact go a
theorem IsDs.rep {ds : List D} {xs : List V} (a : IsDs K w H L m xs ds) : ∀ k : Nat, IsDs K w H L m (List.replicate k xs).flatten (List.replicate k ds).flatten
  | 0 => .nil
  | k + 1 => by
    rw [List.replicate_succ, List.replicate_succ, List.flatten_cons, List.flatten_cons]
    exact a.append (a.rep k)
theorem IsDs.ints : ∀ {ns : List Int} {xs : List V}, IsDs K w H L m xs (ns.map D.int) → xs = ns.map V.int
  | [], _, a => by cases a; rfl
  | n :: ns, _, a => by
    cases a with
    | cons a c =>
      cases a
      rw [c.ints]
      rfl
end

/-! ### displays -/
section
variable {T : Tx} {e a b : Expr} {es : List Expr} {f fa fb : EE} {fl : EL} {pos : Pos}
def small (n : Nat) : Bool := decide (n ≤ 16777216)
theorem small_line {n : Nat} (h : small n = true) : n ≤ sizeLine := by rw [sizeLine_eq]; exact of_decide_eq_true h
def eTup (fl : EL) : EE := fun ρ h => (fl ρ h).bind fun ds h1 => match small ds.length with
  | true => .ok (.tup ds) h1
  | false => .no
theorem je_tup {k} (ha : JA T es fl) : JE T (.Tuple es k pos) (eTup fl) := fun σ H m h ρ Q F p => WE.of (pe_tup wa_pa) (ha σ H m h ρ _ F (p.bind fun ds h1 vs H1 m1 r1 x1 q1 p1 => by
  cases z : small ds.length with
  | false => rw [z] at p1; exact p1.elim
  | true =>
    rw [z] at p1
    refine ⟨by rw [q1.length]; exact small_line z, fun p hp => Post.new p1 r1 hp (isTup r1 hp q1)⟩))
/-- a list that nobody changes -/
def eLst (fl : EL) : EE := fun ρ h => (fl ρ h).bind fun ds h1 => match small ds.length with
  | true => .ok (.lst ds) h1
  | false => .no
theorem je_lst (ha : JA T es fl) : JE T (.List es pos) (eLst fl) := fun σ H m h ρ Q F p => WE.of (pe_lst wa_pa) (ha σ H m h ρ _ F (p.bind fun ds h1 vs H1 m1 r1 x1 q1 p1 => by
  cases z : small ds.length with
  | false => rw [z] at p1; exact p1.elim
  | true =>
    rw [z] at p1
    refine ⟨by rw [q1.length]; exact small_line z, fun p hp => Post.new p1 r1 hp (isLst r1 hp q1)⟩))
/-- a list that will change -/
def eMut (fl : EL) : EE := fun ρ h => (fl ρ h).bind fun ds h1 => match small ds.length with
  | true => .ok (.ref h1.length) (h1 ++ [.lst ds])
  | false => .no
theorem Post.allocL {m : List Addr} {h : Mh} {H : Hp} {σ : L2.St} {p : Addr} {Q : VK} {ds : List D} {xs : List V} (q : Post T (RD T) m h H σ (.ok (.ref h.length) (h ++ [.lst ds])) Q) (r : Rep T.X.K T.X.w H m h) (hp : H p = none) (i : RL T H m h xs ds) : Q (.ref p) (upd H p (.lst xs)) :=
  q _ _ (m ++ [p]) (r.alloc hp ⟨xs, upd_same, (Ext.alloc r hp).isDs r i⟩) (Ext.alloc r hp) (.ref (by rw [← r.len]; simp))
theorem je_mut (ha : JA T es fl) : JE T (.List es pos) (eMut fl) := fun σ H m h ρ Q F p => WE.of (pe_lst wa_pa) (ha σ H m h ρ _ F (p.bind fun ds h1 vs H1 m1 r1 x1 q1 p1 => by
  cases z : small ds.length with
  | false => rw [z] at p1; exact p1.elim
  | true =>
    rw [z] at p1
    refine ⟨by rw [q1.length]; exact small_line z, fun p hp => Post.allocL p1 r1 hp q1⟩))
/-- x, a list that nobody will change from here on -/
def frzD (d : D) (h1 : Mh) : Rs D := match d with
  | .ref n => match h1[n]? with
    | some (.lst ds) => .ok (.lst ds) (h1.set n .dead)
    | _ => .no
  | d => .ok d h1
def eFrz (f : EE) : EE := fun ρ h => (f ρ h).bind frzD
theorem Post.frz {m : List Addr} {h : Mh} {H : Hp} {σ : L2.St} {r : Rs D} {Q : VK} (p : Post T (RD T) m h H σ (r.bind frzD) Q) : Post T (RD T) m h H σ r Q := by
  cases r with
  | no => exact p
  | ex c fs h' => exact p
  | ok d h1 =>
    have p' : Post T (RD T) m h H σ (frzD d h1) Q := p
    intro v H' m' r x q
    unfold frzD at p'
    cases d with
    | ref n =>
      cases g : h1[n]? with
      | none => simp only [g] at p'; exact p'.elim
      | some o =>
        cases o with
        | lst ds =>
          simp only [g] at p'
          obtain ⟨a, xs, rfl, em, ea, i⟩ := lst_at r q g
          have hd : Ob.lst ds ≠ Ob.dead := fun z => by cases z
          have y : Ext H' m' h1 H' m' (h1.set n .dead) := Ext.kill g hd
          refine p' _ H' m' (r.kill em g hd) (x.trans y) (.lst ⟨ea, fun l => ?_⟩ (y.isDs r i))
          obtain ⟨k, u, e1, e2, ne⟩ := l
          have ek : n = k := by
            obtain ⟨h1', q1⟩ := List.getElem?_eq_some_iff.mp em
            obtain ⟨h2', q2⟩ := List.getElem?_eq_some_iff.mp e1
            exact (List.getElem_inj r.nd).mp (q1.trans q2.symm)
          subst ek
          rw [List.getElem?_set_self (List.getElem?_eq_some_iff.mp g).1] at e2
          cases e2
          exact ne rfl
        | dic _ => simp only [g] at p'; exact p'.elim
        | dead => simp only [g] at p'; exact p'.elim
    | _ => exact p' v H' m' r x q
theorem je_frz (he : JE T e f) : JE T e (eFrz f) := fun σ H m h ρ Q F p => he σ H m h ρ Q F (Post.frz p)
end
end DL

namespace DL
open PySem PySem.Spec PyProof.Rows L2 TL

section
variable {T : Tx}
/-! ### arithmetic -/
theorem mk_app (a b : List Nat) : (⟨a.toArray⟩ : Str) ++ ⟨b.toArray⟩ = ⟨(a ++ b).toArray⟩ := ext_tl (by rw [tl_append])
theorem len_mk (a : List Nat) : (⟨a.toArray⟩ : Str).length = a.length := by simp [Str.length]
def oAdd : O2
  | .int i, .int j, h => .ok (.int (i + j)) h
  | .str a, .str b, h => match small (a.length + b.length) with
    | true => .ok (.str (a ++ b)) h
    | false => .no
  | .tup a, .tup b, h => match small (a.length + b.length) && !a.isEmpty with
    | true => .ok (.tup (a ++ b)) h
    | false => .no
  | d, e, h => match lstH d h, lstH e h with
    | some a, some b => match small (a.length + b.length) with
      | true => .ok (.lst (a ++ b)) h
      | false => .no
    | _, _ => .no
/-- two tracked lists, put together -/
theorem op_catH {X : Cx} : OpR X (binaryOp .Add) (fun x y H Q => ∃ l b xs zs, x = .ref l ∧ y = .ref b ∧ H l = some (.lst xs) ∧ H b = some (.lst zs) ∧ xs.length + zs.length ≤ sizeLine ∧ ∀ p, H p = none → Q (.ref p) (upd H p (.lst (xs ++ zs)))) := op_cat
theorem os_add : OpS T (binaryOp .Add) oAdd := by
  intro H m h σ x y dx dy Q r q1 q2 p
  have cat : Post T (RD T) m h H σ (match lstH dx h, lstH dy h with
    | some a, some b => match small (a.length + b.length) with
      | true => .ok (.lst (a ++ b)) h
      | false => .no
    | _, _ => .no) Q → wop2 T.X (binaryOp .Add) x y H Q := fun p => .mk fun pins s σ' v u I r1 r2 => by
    cases e1 : lstH dx h with
    | none => rw [e1] at p; exact p.elim
    | some a =>
      cases e2 : lstH dy h with
      | none => rw [e1, e2] at p; exact p.elim
      | some b =>
        rw [e1, e2] at p
        cases z : small (a.length + b.length) with
        | false => simp only [z] at p; exact p.elim
        | true =>
          simp only [z] at p
          obtain ⟨l, xs, rfl, f1, g1⟩ := lstH_ok r q1 e1
          obtain ⟨l2, ys, rfl, f2, g2⟩ := lstH_ok r q2 e2
          exact op_catH pins s σ' H _ _ v u Q I r1 r2 ⟨l, l2, xs, ys, rfl, rfl, f1, f2, by rw [g1.length, g2.length]; exact small_line z, fun c hc => Post.new p r hc (isLst r hc (g1.append g2))⟩
  cases dx with
  | int i =>
    cases dy with
    | int j =>
      cases q1; cases q2
      exact .mk fun pins s σ' v u I r1 r2 => op_add pins s σ' H _ _ v u Q I r1 r2 ⟨i, j, rfl, rfl, Post.here p r (.int _)⟩
    | _ => exact cat p
  | str a =>
    cases dy with
    | str b =>
      cases q1; cases q2
      have p' : Post T (RD T) m h H σ (match small (a.length + b.length) with
        | true => .ok (.str (a ++ b)) h
        | false => .no) Q := p
      cases z : small (a.length + b.length) with
      | false => rw [z] at p'; exact p'.elim
      | true =>
        rw [z] at p'
        exact .mk fun pins s σ' v u I r1 r2 => op_add_str pins s σ' H _ _ v u Q I r1 r2 ⟨_, _, rfl, rfl, by rw [len_mk, len_mk]; exact small_line z, Post.here p' r (by rw [mk_app]; exact .str _)⟩
    | _ => exact cat p
  | tup a =>
    cases dy with
    | tup b =>
      have p' : Post T (RD T) m h H σ (match small (a.length + b.length) && !a.isEmpty with
        | true => .ok (.tup (a ++ b)) h
        | false => .no) Q := p
      cases z : small (a.length + b.length) && !a.isEmpty with
      | false => rw [z] at p'; exact p'.elim
      | true =>
        rw [z] at p'
        obtain ⟨z1, z2⟩ := Bool.and_eq_true_iff.mp z
        cases q1 with
        | @tup a1 xs _ e1 g1 =>
          cases q2 with
          | @tup a2 ys _ e2 g2 =>
            refine .mk fun pins s σ' v u I r1 r2 => op_catT pins s σ' H _ _ v u Q I r1 r2 ⟨a1, a2, xs, ys, rfl, rfl, e1, e2, ?_, by rw [g1.length, g2.length]; exact small_line z1, fun c => ?_, fun _ c hc => Post.new p' r hc (isTup r hc (g1.append g2))⟩
            · rintro rfl
              cases g1
              cases z2
            · subst c
              cases g2
              rw [List.append_nil] at p'
              exact Post.here p' r (.tup e1 g1)
    | _ => exact cat p
  | _ => exact cat p
def oSub : O2
  | .int i, .int j, h => .ok (.int (i - j)) h
  | _, _, _ => .no
theorem os_sub : OpS T (binaryOp .Sub) oSub := opS_of op_sub fun H m h σ x y dx dy Q r q1 q2 p => by
  cases dx with
  | int i =>
    cases dy with
    | int j => cases q1; cases q2; exact ⟨i, j, rfl, rfl, Post.here p r (.int _)⟩
    | _ => exact p.elim
  | _ => exact p.elim
def mulOk (i j : Int) : Bool := decide (i.natAbs.log2 + j.natAbs.log2 < 1000000)
def repOk (n : Nat) (k : Int) : Bool := decide (-(2 ^ 63) ≤ k ∧ k < 2 ^ 63) && small (n * k.toNat)
def oMul : O2
  | .int i, .int j, h => match mulOk i j with
    | true => .ok (.int (i * j)) h
    | false => .no
  | .str a, .int k, h => match repOk a.length k with
    | true => .ok (.str (List.replicate k.toNat a).flatten) h
    | false => .no
  | d, .int k, h => match lstH d h with
    | some ds => match repOk ds.length k with
      | true => .ok (.lst (List.replicate k.toNat ds).flatten) h
      | false => .no
    | none => .no
  | _, _, _ => .no
def divOk (j : Int) : Bool := decide (j ≠ 0) && decide (j.natAbs.log2 < 9000)
def oDiv : O2
  | .int i, .int j, h => match divOk j with
    | true => .ok (.int (i.fdiv j)) h
    | false => .no
  | _, _, _ => .no
def oMod : O2
  | .int i, .int j, h => match decide (j ≠ 0) with
    | true => .ok (.int (i.fmod j)) h
    | false => .no
  | _, _, _ => .no
theorem op_fdivA {X : Cx} : OpR X (binaryOp .FloorDiv) (rI (fun _ j => j ≠ 0 ∧ j.natAbs.log2 < 9000) fun i j => .int (i.fdiv j)) := opI fun _ _ _ _ _ _ _ hc q => floordiv_int hc.1 q (.inl (PyProof.noPylong_of_log2 hc.2))
theorem os_div : OpS T (binaryOp .FloorDiv) oDiv := opS_of op_fdivA fun H m h σ x y dx dy Q r q1 q2 p => by
  cases dx with
  | int i =>
    cases dy with
    | int j =>
      cases q1; cases q2
      have p' : Post T (RD T) m h H σ (match divOk j with
        | true => .ok (.int (i.fdiv j)) h
        | false => .no) Q := p
      cases z : divOk j with
      | false => rw [z] at p'; exact p'.elim
      | true =>
        rw [z] at p'
        obtain ⟨z1, z2⟩ := Bool.and_eq_true_iff.mp z
        exact ⟨i, j, rfl, rfl, ⟨of_decide_eq_true z1, of_decide_eq_true z2⟩, Post.here p' r (.int _)⟩
    | _ => exact p.elim
  | _ => exact p.elim
theorem os_mod : OpS T (binaryOp .Mod) oMod := opS_of op_modN fun H m h σ x y dx dy Q r q1 q2 p => by
  cases dx with
  | int i =>
    cases dy with
    | int j =>
      cases q1; cases q2
      have p' : Post T (RD T) m h H σ (match decide (j ≠ 0) with
        | true => .ok (.int (i.fmod j)) h
        | false => .no) Q := p
      cases z : decide (j ≠ 0) with
      | false => rw [z] at p'; exact p'.elim
      | true =>
        rw [z] at p'
        exact ⟨i, j, rfl, rfl, of_decide_eq_true z, Post.here p' r (.int _)⟩
    | _ => exact p.elim
  | _ => exact p.elim
def powOk (i j : Int) : Bool := decide (0 ≤ j ∧ j ≤ 1000000) && decide (i.natAbs < 2 ^ 64)
theorem powOk_ok {i j : Int} (h : powOk i j = true) : CPow i j := by
  obtain ⟨h1, h2⟩ := Bool.and_eq_true_iff.mp h
  exact ⟨(of_decide_eq_true h1).1, (of_decide_eq_true h1).2, of_decide_eq_true h2⟩
def oPow : O2
  | .int i, .int j, h => match powOk i j with
    | true => .ok (.int (i ^ j.toNat)) h
    | false => .no
  | _, _, _ => .no
theorem os_pow : OpS T (binaryOp .Pow) oPow := opS_of op_pow fun H m h σ x y dx dy Q r q1 q2 p => by
  cases dx with
  | int i =>
    cases dy with
    | int j =>
      cases q1; cases q2
      have p' : Post T (RD T) m h H σ (match powOk i j with
        | true => .ok (.int (i ^ j.toNat)) h
        | false => .no) Q := p
      cases z : powOk i j with
      | false => rw [z] at p'; exact p'.elim
      | true =>
        rw [z] at p'
        exact ⟨i, j, rfl, rfl, powOk_ok z, Post.here p' r (.int _)⟩
    | _ => exact p.elim
  | _ => exact p.elim
def oShl : O2
  | .int i, .int j, h => match powOk i j with
    | true => .ok (.int (i * 2 ^ j.toNat)) h
    | false => .no
  | _, _, _ => .no
theorem os_shl : OpS T (binaryOp .LShift) oShl := opS_of op_shl fun H m h σ x y dx dy Q r q1 q2 p => by
  cases dx with
  | int i =>
    cases dy with
    | int j =>
      cases q1; cases q2
      have p' : Post T (RD T) m h H σ (match powOk i j with
        | true => .ok (.int (i * 2 ^ j.toNat)) h
        | false => .no) Q := p
      cases z : powOk i j with
      | false => rw [z] at p'; exact p'.elim
      | true =>
        rw [z] at p'
        exact ⟨i, j, rfl, rfl, powOk_ok z, Post.here p' r (.int _)⟩
    | _ => exact p.elim
  | _ => exact p.elim
def oNeg : O1
  | .int i, h => .ok (.int (-i)) h
  | _, _ => .no
theorem us_neg : UnS T (unaryOp .USub) oNeg := fun H m h σ x dx Q r q1 p => .mk fun pins s σ' v I r1 => by
  cases dx with
  | int i => cases q1; exact un_neg pins s σ' H _ v Q I r1 ⟨i, rfl, Post.here p r (.int _)⟩
  | _ => exact p.elim

/-! ### comparisons -/
def oCmpI (c : Int → Int → Bool) : O2
  | .int i, .int j, h => .ok (.bl (c i j)) h
  | _, _, _ => .no
abbrev oLt : O2 := oCmpI fun i j => decide (i < j)
abbrev oLe : O2 := oCmpI fun i j => decide (i ≤ j)
abbrev oGt : O2 := oCmpI fun i j => decide (j < i)
abbrev oGe : O2 := oCmpI fun i j => decide (j ≤ i)
theorem os_cmpI {c : Int → Int → Bool} {f : Value → Value → Sem Value} (hr : OpR T.X f (rI0 fun i j => .bl (c i j))) : OpS T f (oCmpI c) := opS_of hr fun H m h σ x y dx dy Q r q1 q2 p => by
  cases dx with
  | int i =>
    cases dy with
    | int j => cases q1; cases q2; exact ⟨i, j, rfl, rfl, Post.here p r (.bl _)⟩
    | _ => exact p.elim
  | _ => exact p.elim
theorem os_lt : OpS T (compareOp .Lt) oLt := os_cmpI op_lt
theorem os_le : OpS T (compareOp .LtE) oLe := os_cmpI op_le
theorem os_gt : OpS T (compareOp .Gt) oGt := os_cmpI op_gt
theorem os_ge : OpS T (compareOp .GtE) oGe := os_cmpI op_ge
/-- == of scalars of one kind, or told apart by kind -/
def scalD : D → D → Option Bool
  | .int i, .int j => some (decide (i = j))
  | .str a, .str b => some (decide (a = b))
  | .bl a, .bl b => some (decide (a = b))
  | .non, .non => some true
  | .non, .int _ => some false | .int _, .non => some false | .non, .bl _ => some false | .bl _, .non => some false | .non, .str _ => some false | .str _, .non => some false
  | .int _, .str _ => some false | .str _, .int _ => some false | .bl _, .str _ => some false | .str _, .bl _ => some false
  | _, _ => none
theorem mk_inj {a b : List Nat} (h : (⟨a.toArray⟩ : Str) = ⟨b.toArray⟩) : a = b := congrArg tl h
theorem scalD_ok {m : List Addr} {h : Mh} {H : Hp} {x y : V} {dx dy : D} {k : Bool} (q1 : RD T H m h x dx) (q2 : RD T H m h y dy) (e : scalD dx dy = some k) : scal x y = true ∧ decide (x = y) = k := by
  cases dx with
  | non => cases dy <;> first | (cases e; cases q1; cases q2; exact ⟨rfl, by simp⟩) | cases e
  | int i => cases dy <;> first | (cases e; cases q1; cases q2; exact ⟨rfl, by simp⟩) | cases e
  | bl i => cases dy <;> first | (cases e; cases q1; cases q2; exact ⟨rfl, by simp⟩) | cases e
  | str a =>
    cases dy with
    | str b =>
      cases e; cases q1; cases q2
      refine ⟨rfl, ?_⟩
      by_cases z : a = b
      · subst z; simp
      · rw [decide_eq_false z, decide_eq_false fun w => z (mk_inj (V.str.inj w))]
    | _ => first | (cases e; cases q1; cases q2; exact ⟨rfl, by simp⟩) | cases e
  | _ => cases dy <;> cases e
mutual
/-- as data at any depth -/
def py : D → Option PyData
  | .non => some .none
  | .bl b => some (.bool b)
  | .int i => some (.int i)
  | .str s => some (.str ⟨s.toArray⟩)
  | .tup ds => (pys ds).map .tuple
  | .lst ds => (pys ds).map .list
  | _ => none
def pys : List D → Option (List PyData)
  | [] => some []
  | d :: ds => match py d, pys ds with
    | some a, some b => some (a :: b)
    | _, _ => none
end
def pyH (d : D) (h : Mh) : Option PyData := match lstOf d h with
  | some ds => (pys ds).map .list
  | none => py d
section
variable {m : List Addr} {h : Mh} {H : Hp}
mutual
theorem py_ok : ∀ (d : D) (x : V) (a : PyData), RD T H m h x d → py d = some a → Dp T.X.K H x a
  | .u, _, _, q, _ => by cases q
  | .non, _, _, q, e => by cases q; cases e; exact .non
  | .bl b, _, _, q, e => by cases q; cases e; exact .bl b
  | .int i, _, _, q, e => by cases q; cases e; exact .int i
  | .str s, _, _, q, e => by cases q; cases e; exact .str _
  | .tup ds, _, _, q, e => by
    cases q with
    | tup q1 q2 =>
      unfold py at e
      cases z : pys ds with
      | none => rw [z] at e; cases e
      | some as => rw [z] at e; cases e; exact .tup q1 (pys_ok ds _ as q2 z)
  | .lst ds, _, _, q, e => by
    cases q with
    | lst q1 q2 =>
      unfold py at e
      cases z : pys ds with
      | none => rw [z] at e; cases e
      | some as => rw [z] at e; cases e; exact .lst q1.sq (pys_ok ds _ as q2 z)
  | .dic _, _, _, _, e => by cases e
  | .ref _, _, _, _, e => by cases e
  | .scr _, _, _, _, e => by cases e
theorem pys_ok : ∀ (ds : List D) (xs : List V) (as : List PyData), RL T H m h xs ds → pys ds = some as → DpAll T.X.K H xs as
  | [], _, _, q, e => by cases q; cases e; exact .nil
  | d :: ds, _, _, q, e => by
    cases q with
    | cons q1 q2 =>
      unfold pys at e
      cases z1 : py d with
      | none => rw [z1] at e; cases e
      | some a =>
        cases z2 : pys ds with
        | none => rw [z1, z2] at e; cases e
        | some as => rw [z1, z2] at e; cases e; exact .cons (py_ok d _ a q1 z1) (pys_ok ds _ as q2 z2)
end
theorem pyH_ok {d : D} {x : V} {a : PyData} (r : Rep T.X.K T.X.w H m h) (q : RD T H m h x d) (e : pyH d h = some a) : Dp T.X.K H x a := by
  unfold pyH at e
  cases z : lstOf d h with
  | none => rw [z] at e; exact py_ok d x a q e
  | some ds =>
    rw [z] at e
    obtain ⟨b, xs, rfl, g1, g2⟩ := lstOf_ok r q z
    cases y : pys ds with
    | none => simp only [y] at e; cases e
    | some as => simp only [y] at e; cases e; exact .lst g1 (pys_ok ds xs as g2 y)
end
/-- == at any depth; neg: != -/
def eqD (dx dy : D) (h : Mh) : Option Bool := match scalD dx dy with
  | some k => some k
  | none => match pyH dx h, pyH dy h with
    | some a, some b => match SeqAt.shaped a && SeqAt.shaped b with
      | true => some (PyData.eqv a b)
      | false => none
    | _, _ => none
def oEq : O2 := fun dx dy h => match eqD dx dy h with
  | some k => .ok (.bl k) h
  | none => .no
def oNe : O2 := fun dx dy h => match eqD dx dy h with
  | some k => .ok (.bl (!k)) h
  | none => .no
theorem eqD_ok {m : List Addr} {h : Mh} {H : Hp} {x y : V} {dx dy : D} {k : Bool} (r : Rep T.X.K T.X.w H m h) (q1 : RD T H m h x dx) (q2 : RD T H m h y dy) (e : eqD dx dy h = some k) :
    (scal x y = true ∧ decide (x = y) = k) ∨ ∃ a b, Dp T.X.K H x a ∧ Dp T.X.K H y b ∧ SeqAt.shaped a = true ∧ SeqAt.shaped b = true ∧ PyData.eqv a b = k := by
  unfold eqD at e
  cases z : scalD dx dy with
  | some k' => rw [z] at e; cases e; exact .inl (scalD_ok q1 q2 z)
  | none =>
    rw [z] at e
    cases z1 : pyH dx h with
    | none => rw [z1] at e; cases e
    | some a =>
      cases z2 : pyH dy h with
      | none => rw [z1, z2] at e; cases e
      | some b =>
        rw [z1, z2] at e
        cases z3 : SeqAt.shaped a && SeqAt.shaped b with
        | false => simp only [z3] at e; cases e
        | true =>
          simp only [z3] at e
          cases e
          obtain ⟨y1, y2⟩ := Bool.and_eq_true_iff.mp z3
          exact .inr ⟨a, b, pyH_ok r q1 z1, pyH_ok r q2 z2, y1, y2, rfl⟩
theorem os_eq (hu : T.X.A.units + 64 < cLine) : OpS T (compareOp .Eq) oEq := fun H m h σ x y dx dy Q r q1 q2 p => .mk fun pins s σ' v u I r1 r2 => by
  unfold oEq at p
  cases e : eqD dx dy h with
  | none => rw [e] at p; exact p.elim
  | some k =>
    rw [e] at p
    have q := Post.here p r (.bl k)
    rcases eqD_ok r q1 q2 e with ⟨g1, g2⟩ | ⟨a, b, g1, g2, g3, g4, g5⟩
    · exact op_eq pins s σ' H x y v u Q I r1 r2 ⟨g1, by rw [g2]; exact q⟩
    · exact op_eqD hu pins s σ' H x y v u Q I r1 r2 ⟨a, b, g1, g2, g3, g4, by rw [g5]; exact q⟩
theorem os_ne (hu : T.X.A.units + 64 < cLine) : OpS T (compareOp .NotEq) oNe := fun H m h σ x y dx dy Q r q1 q2 p => .mk fun pins s σ' v u I r1 r2 => by
  unfold oNe at p
  cases e : eqD dx dy h with
  | none => rw [e] at p; exact p.elim
  | some k =>
    rw [e] at p
    have q := Post.here p r (.bl (!k))
    rcases eqD_ok r q1 q2 e with ⟨g1, g2⟩ | ⟨a, b, g1, g2, g3, g4, g5⟩
    · exact op_ne pins s σ' H x y v u Q I r1 r2 ⟨g1, by rw [g2]; exact q⟩
    · exact op_neD hu pins s σ' H x y v u Q I r1 r2 ⟨a, b, g1, g2, g3, g4, by rw [g5]; exact q⟩
/-- is None, is not None -/
def isNonD : D → Bool
  | .non => true
  | _ => false
def oIs : O1 := fun d h => .ok (.bl (isNonD d)) h
def oIsNot : O1 := fun d h => .ok (.bl (!isNonD d)) h
theorem isNon_ok {m : List Addr} {h : Mh} {H : Hp} {x : V} {d : D} (q : RD T H m h x d) : decide (x = .non) = isNonD d := by
  cases q <;> first | (simp [isNonD]; done) | rfl
section
variable {a : Expr} {fa : EE} {pos : Pos}
theorem je_is {j pos'} (ha : JE T a fa) : JE T (.Compare a [.Is] [.Constant .none j pos'] pos) (eUn oIs fa) := fun σ H m h ρ Q F p =>
  WE.of (pe_cmp (pc_isN we_pe)) (ha σ H m h ρ _ F (p.bind fun d h1 v H1 m1 r1 _ q1 p1 => by rw [isNon_ok q1]; exact Post.here p1 r1 (.bl _)))
theorem je_isnot {j pos'} (ha : JE T a fa) : JE T (.Compare a [.IsNot] [.Constant .none j pos'] pos) (eUn oIsNot fa) := fun σ H m h ρ Q F p =>
  WE.of (pe_cmp (pc_notN we_pe)) (ha σ H m h ρ _ F (p.bind fun d h1 v H1 m1 r1 _ q1 p1 => by rw [isNon_ok q1]; exact Post.here p1 r1 (.bl _)))
theorem jt_is {j pos'} (ha : JE T a fa) : JT T (.Compare a [.Is] [.Constant .none j pos'] pos) (fun ρ h => (eUn oIs fa ρ h).bind isB) := fun σ H m h ρ Q F p =>
  WT.of (pt_cmp (pc_isN we_pe)) (ha σ H m h ρ _ F (p.isB.bind fun d h1 v H1 m1 r1 _ q1 p1 => by rw [isNon_ok q1]; exact Post.here p1 r1 (.bl _)))
theorem jt_isnot {j pos'} (ha : JE T a fa) : JT T (.Compare a [.IsNot] [.Constant .none j pos'] pos) (fun ρ h => (eUn oIsNot fa ρ h).bind isB) := fun σ H m h ρ Q F p =>
  WT.of (pt_cmp (pc_notN we_pe)) (ha σ H m h ρ _ F (p.isB.bind fun d h1 v H1 m1 r1 _ q1 p1 => by rw [isNon_ok q1]; exact Post.here p1 r1 (.bl _)))
end
end
end DL

namespace DL
open PySem PySem.Spec PyProof.Rows L2 TL
theorem fold_repN (a : List Nat) : ∀ (k : Nat) (acc : List Nat), (List.replicate k a.toArray).foldl (· ++ ·) acc.toArray = (acc ++ (List.replicate k a).flatten).toArray
  | 0, acc => by simp
  | k + 1, acc => by
    rw [List.replicate_succ, List.foldl_cons, List.replicate_succ, List.flatten_cons, ← List.append_assoc]
    have e : acc.toArray ++ a.toArray = (acc ++ a).toArray := by simp
    rw [e]
    exact fold_repN a k (acc ++ a)
theorem rep_flat_len {α : Type} (a : List α) (k : Nat) : (List.replicate k a).flatten.length = a.length * k := by
  induction k with
  | zero => simp
  | succ k ih => rw [List.replicate_succ, List.flatten_cons, List.length_append, ih, Nat.mul_succ]; omega
theorem repOk_ok {n : Nat} {k : Int} (h : repOk n k = true) : -(2 ^ 63) ≤ k ∧ k < 2 ^ 63 ∧ n * k.toNat ≤ 16777216 := by
  obtain ⟨h1, h2⟩ := Bool.and_eq_true_iff.mp h
  exact ⟨(of_decide_eq_true h1).1, (of_decide_eq_true h1).2, of_decide_eq_true h2⟩
theorem op_mulS {X : Cx} : OpR X (binaryOp .Mult) (fun x y H Q => ∃ (a : List Nat) (k : Int), x = .str ⟨a.toArray⟩ ∧ y = .int k ∧ repOk a.length k = true ∧ Q (.str ⟨(List.replicate k.toNat a).flatten.toArray⟩) H) := by
  intro pins s σ H x y v u Q I rx ry h
  obtain ⟨a, k, rfl, rfl, hz, q⟩ := h
  obtain ⟨t, rfl⟩ := rx
  obtain ⟨t', rfl⟩ := ry
  obtain ⟨h1, h2, h3⟩ := repOk_ok hz
  have el : (⟨a.toArray⟩ : Str).length = a.length := len_mk a
  have fin : ∀ (z : Str) (t : Tok) (n : Nat), z = ⟨(List.replicate k.toNat a).flatten.toArray⟩ → EP X pins σ Q (.str z t) { s with toks := n } := fun z t n e => by
    subst e
    exact ⟨.str _, H, I.tok n, ⟨_, rfl⟩, q⟩
  refine PySem.P.mul_str ?_ (fun g1 g2 => ?_) (fun g1 g2 => ?_) ?_
  · have e1 : decide (k < -(2 ^ 63 : Int)) = false := decide_eq_false (by omega)
    have e2 : decide (k ≥ 2 ^ 63) = false := decide_eq_false (by omega)
    rw [e1, e2]; rfl
  · rw [el]
    have hk : 0 < k := by omega
    have e3 : (a.length : Int) * k ≤ 16777216 := by
      have e := Int.ofNat_le.mpr h3
      rw [Int.natCast_mul, Int.toNat_of_nonneg (Int.le_of_lt hk)] at e
      exact e
    have e4 : (a.length : Int) ≤ (2 ^ 63 - 1) / k := by
      rw [Int.le_ediv_iff_mul_le hk]
      omega
    omega
  · rw [el]
    exact decide_eq_false (by rw [sizeLine_eq]; omega)
  · by_cases g1 : k < 1
    · rw [if_pos g1]
      exact ⟨by decide, fin _ _ _ (by rw [show k.toNat = 0 by omega]; rfl)⟩
    · rw [if_neg g1]
      by_cases g2 : (k == 1 || (⟨a.toArray⟩ : Str).length == 0) = true
      · rw [if_pos g2]
        refine fin _ t s.toks ?_
        rcases Bool.or_eq_true_iff.mp g2 with g | g
        · have e : k = 1 := by simpa using g
          subst e
          simp [List.replicate]
        · have e : a.length = 0 := by rw [el] at g; simpa using g
          have ea : a = [] := List.length_eq_zero_iff.mp e
          subst ea
          simp
      · rw [if_neg g2]
        have ez : ((List.replicate k.toNat a.toArray).foldl (· ++ ·) #[]) = ((List.replicate k.toNat a).flatten).toArray := by
          have := fold_repN a k.toNat []
          simpa using this
        refine ⟨?_, fin _ _ _ (by rw [ez])⟩
        show (⟨(List.replicate k.toNat a.toArray).foldl (· ++ ·) #[]⟩ : Str).length ≤ sizeLine
        rw [ez, len_mk, rep_flat_len, sizeLine_eq]
        exact h3
section
variable {T : Tx}
theorem mulOk_ok {i j : Int} (h : mulOk i j = true) : CMulW i j := by
  show _ < 1000000
  exact of_decide_eq_true h
theorem os_mul : OpS T (binaryOp .Mult) oMul := by
  intro H m h σ x y dx dy Q r q1 q2 p
  refine .mk fun pins s σ' v u I r1 r2 => ?_
  have cat : ∀ k, dy = .int k → Post T (RD T) m h H σ (match lstH dx h with
    | some ds => match repOk ds.length k with
      | true => .ok (.lst (List.replicate k.toNat ds).flatten) h
      | false => .no
    | none => .no) Q → wpAny (model T.X.prog T.X.w) T.X.A (binaryOp .Mult v u) (EP T.X pins σ' Q) T.X.xe s := fun k ek pp => by
    subst ek
    cases e1 : lstH dx h with
    | none => rw [e1] at pp; exact pp.elim
    | some a =>
      rw [e1] at pp
      cases z : repOk a.length k with
      | false => simp only [z] at pp; exact pp.elim
      | true =>
        simp only [z] at pp
        obtain ⟨l, xs, rfl, f1, g1⟩ := lstH_ok r q1 e1
        cases q2
        obtain ⟨h1, h2, h3⟩ := repOk_ok z
        exact op_rep pins s σ' H _ _ v u Q I r1 r2 ⟨l, k, xs, rfl, rfl, f1, h1, h2, by rw [g1.length, sizeLine_eq]; exact h3, fun c hc => Post.new pp r hc (isLst r hc (g1.rep k.toNat))⟩
  cases dy with
  | int k =>
    cases dx with
    | int i =>
      cases q1; cases q2
      have p' : Post T (RD T) m h H σ (match mulOk i k with
        | true => .ok (.int (i * k)) h
        | false => .no) Q := p
      cases z : mulOk i k with
      | false => rw [z] at p'; exact p'.elim
      | true => rw [z] at p'; exact op_mulW pins s σ' H _ _ v u Q I r1 r2 ⟨i, k, rfl, rfl, mulOk_ok z, Post.here p' r (.int _)⟩
    | str a =>
      cases q1; cases q2
      have p' : Post T (RD T) m h H σ (match repOk a.length k with
        | true => .ok (.str (List.replicate k.toNat a).flatten) h
        | false => .no) Q := p
      cases z : repOk a.length k with
      | false => rw [z] at p'; exact p'.elim
      | true => rw [z] at p'; exact op_mulS pins s σ' H _ _ v u Q I r1 r2 ⟨a, k, rfl, rfl, z, Post.here p' r (.str _)⟩
    | _ => exact cat k rfl p
  | _ => cases dx <;> exact p.elim

/-! ### subscripts -/
def dlook : List (DK × D) → DK → Option D
  | [], _ => none
  | (k, d) :: r, q => if q = k then some d else dlook r q
/-- a value as a key -/
def keyD : D → Option DK
  | .int i => some (.inl i)
  | .str s => some (.inr s)
  | _ => none
/-- the pairs of a dict -/
def dicOf (d : D) (h : Mh) : Option (List (DK × D)) := match d with
  | .dic kds => some kds
  | .ref n => match h[n]? with
    | some (.dic kds) => some kds
    | _ => none
  | _ => none
def oIxS (d i : D) (h : Mh) : Rs D := match d, i with
  | .tup ds, .int i => match atI ds i with
    | some d => .ok d h
    | none => .no
  | .str s, .int i => match small s.length, atI s i with
    | true, some c => .ok (.str [c]) h
    | _, _ => .no
  | d, .int i => match lstOf d h with
    | some ds => match atI ds i with
      | some d => .ok d h
      | none => .no
    | none => .no
  | _, _ => .no
def oIx : O2 := fun d i h => match dicOf d h with
  | some kds => match keyD i with
    | some k => match dlook kds k with
      | some d => .ok d h
      | none => .no
    | none => .no
  | none => oIxS d i h
theorem atI_map {K : PySem.W.Frag} {w : World} {H : Hp} {L : Addr → Prop} {m : List Addr} {xs : List V} {ds : List D} {i : Int} {d : D} (q : IsDs K w H L m xs ds) (e : atI ds i = some d) : ∃ x, atI xs i = some x ∧ IsD K w H L m x d := by
  unfold atI at e ⊢
  rw [q.length]
  cases z : ixN ds.length i with
  | none => rw [z] at e; cases e
  | some j => rw [z] at e; exact q.get e
theorem kk_inj {a b : DK} (h : kk a = kk b) : a = b := by
  cases a <;> cases b <;> first
    | (have e := Sum.inl.inj h; rw [e]; done)
    | (have e := mk_inj (Sum.inr.inj h); rw [e]; done)
    | cases h
theorem dlook_ok {K : PySem.W.Frag} {w : World} {H : Hp} {L : Addr → Prop} {m : List Addr} : ∀ {kds : List (DK × D)} {kvs : List (Key × V)} (k : DK), IsKs K w H L m kvs kds →
    (∀ d, dlook kds k = some d → ∃ v, valV kvs (kk k) = some v ∧ IsD K w H L m v d) ∧ (dlook kds k = none → valV kvs (kk k) = none)
  | [], _, k, q => by
    cases q
    exact ⟨fun d e => (nomatch e), fun _ => rfl⟩
  | (k', d') :: r, _, k, q => by
    cases q with
    | @cons _ v _ vs _ q1 q2 =>
      obtain ⟨i1, i2⟩ := dlook_ok k q2
      by_cases z : k = k'
      · subst z
        refine ⟨fun d e => ?_, fun e => ?_⟩
        · unfold dlook at e
          rw [if_pos rfl] at e
          cases e
          exact ⟨v, by simp [valV], q1⟩
        · unfold dlook at e
          rw [if_pos rfl] at e
          cases e
      · have hk : kk k ≠ kk k' := fun e => z (kk_inj e)
        have hd : decide (kk k' = kk k) = false := decide_eq_false (Ne.symm hk)
        have ev : valV ((kk k', v) :: vs) (kk k) = valV vs (kk k) := by
          unfold valV
          rw [List.find?_cons, hd]
        refine ⟨fun d e => ?_, fun e => ?_⟩
        · unfold dlook at e
          rw [if_neg z] at e
          rw [ev]
          exact i1 d e
        · unfold dlook at e
          rw [if_neg z] at e
          rw [ev]
          exact i2 e
end
end DL

namespace DL
open PySem PySem.Spec PyProof.Rows L2 TL
section
variable {T : Tx} {a b e : Expr} {fa fb f : EE} {pos : Pos}
/-- a subscript, by values -/
structure wix (X : Cx)  (x y : V) (H : Hp) (Q : VK) : Prop where
  run : ∀ (value slice : Expr) (pins : List (Addr × Obj)) (s : Shared) (σ : L2.St) (v u : Value), Inv X pins σ H s → RelV x v → RelV y u → subscripted slice false v u = operate [v, u] (getItem v u) → wpAny (model X.prog X.w) X.A (subscriptTail value slice v u) (EP X pins σ Q) X.xe s
theorem wix_ok {X : Cx} : IxR X (wix X) := fun value slice pins s σ _ _ _ v u _ I r1 r2 h hs => h.run value slice pins s σ v u I r1 r2 hs
theorem ix_dget {X : Cx} (hu : X.A.units + 1 < cLine) : IxR X (fun x y H Q => ∃ a v, x = .ref a ∧ DGet H a y (some v) ∧ Q v H) := by
  intro value slice pins s σ H x y v u Q I rx ry h hs
  obtain ⟨p, r, rfl, g, q⟩ := h
  obtain rfl : v = Value.ref p := rx
  exact tail_any (dict_typeIs I g) slot_dict_getitem.lookup (d_getItem hu I g ry fun w' s' I' rw' => ⟨r, H, I', rw', q⟩) hs
theorem keyD_ok {m : List Addr} {h : Mh} {H : Hp} {y : V} {d : D} {k : DK} (q : RD T H m h y d) (e : keyD d = some k) : y = kV (kk k) := by
  cases q <;> cases e <;> rfl
theorem ix_D (hu : T.X.A.units + 64 < cLine) (H : Hp) (m : List Addr) (h : Mh) (σ : L2.St) (x y : V) (dx dy : D) (Q : VK) (r : Rep T.X.K T.X.w H m h) (q1 : RD T H m h x dx) (q2 : RD T H m h y dy) (p : Post T (RD T) m h H σ (oIx dx dy h) Q) : wix T.X x y H Q := by
  refine .mk fun value slice pins s σ' v u I r1 r2 hs => ?_
  unfold oIx at p
  cases z : dicOf dx h with
  | some kds =>
    rw [z] at p
    cases z2 : keyD dy with
    | none => rw [z2] at p; exact p.elim
    | some k =>
      rw [z2] at p
      simp only at p
      cases z3 : dlook kds k with
      | none => rw [z3] at p; exact p.elim
      | some d =>
        rw [z3] at p
        have ey := keyD_ok q2 z2
        cases q1 with
        | dic e1 i1 =>
          cases z
          obtain ⟨v0, g1, g2⟩ := (dlook_ok k i1).1 d z3
          have fin := Post.here p r g2
          rcases e1 with ⟨e1, _⟩ | ⟨es, n, kd, e1⟩
          · refine ix_dget (by omega) value slice pins s σ' H _ y v u Q I r1 r2 ⟨_, v0, rfl, .inl ⟨_, kk k, .inl e1, ey, g1.symm⟩, fin⟩ hs
          · cases k with
            | inl i =>
              rw [show kk (.inl i) = Sum.inl i from rfl, e1.1 i] at g1
              cases g1
            | inr zz =>
              obtain ⟨r0, g3, g4⟩ := e1.2 ⟨zz.toArray⟩
              rw [show (Sum.inr ⟨zz.toArray⟩ : Key) = kk (.inr zz) from rfl, g1] at g4
              obtain ⟨u0, e5, e6⟩ := g4.some_of
              subst e5
              exact ix_kdict value slice pins s σ' H _ y v u Q I r1 r2 ⟨_, _, v0, rfl, ey, ⟨es, n, u0, kd.at_, kd.lit, g3, e6⟩, fin⟩ hs
        | @ref n a e1 =>
          unfold dicOf at z
          cases z4 : h[n]? with
          | none => simp only [z4] at z; cases z
          | some o =>
            cases o with
            | dic kds' =>
              simp only [z4] at z
              cases z
              obtain ⟨kvs, f1, f2⟩ := r.ob n a _ e1 z4
              obtain ⟨v0, g1, g2⟩ := (dlook_ok k f2).1 d z3
              exact ix_dget (by omega) value slice pins s σ' H _ y v u Q I r1 r2 ⟨_, v0, rfl, .inl ⟨_, kk k, .inl f1, ey, g1.symm⟩, Post.here p r g2⟩ hs
            | lst _ => simp only [z4] at z; cases z
            | dead => simp only [z4] at z; cases z
        | _ => cases z
  | none =>
    rw [z] at p
    have seq : ∀ i, dy = .int i → Post T (RD T) m h H σ (match lstOf dx h with
      | some ds => match atI ds i with
        | some d => .ok d h
        | none => .no
      | none => .no) Q → wpAny (model T.X.prog T.X.w) T.X.A (subscriptTail value slice v u) (EP T.X pins σ' Q) T.X.xe s := fun i ei pp => by
      subst ei
      cases e1 : lstOf dx h with
      | none => rw [e1] at pp; exact pp.elim
      | some ds =>
        rw [e1] at pp
        simp only at pp
        cases e2 : atI ds i with
        | none => rw [e2] at pp; exact pp.elim
        | some d =>
          rw [e2] at pp
          obtain ⟨a, xs, rfl, f1, f2⟩ := lstOf_ok r q1 e1
          obtain ⟨x0, g1, g2⟩ := atI_map f2 e2
          cases q2
          exact ix_list value slice pins s σ' H _ _ v u Q I r1 r2 ⟨a, xs, i, x0, rfl, rfl, f1, g1, Post.here pp r g2⟩ hs
    cases dy with
    | int i =>
      cases dx with
      | tup ds =>
        have p' : Post T (RD T) m h H σ (match atI ds i with
          | some d => .ok d h
          | none => .no) Q := p
        cases e2 : atI ds i with
        | none => rw [e2] at p'; exact p'.elim
        | some d =>
          rw [e2] at p'
          cases q1 with
          | tup f1 f2 =>
            obtain ⟨x0, g1, g2⟩ := atI_map f2 e2
            cases q2
            exact ix_tup value slice pins s σ' H _ _ v u Q I r1 r2 ⟨_, _, i, x0, rfl, rfl, f1, g1, Post.here p' r g2⟩ hs
      | str z0 =>
        have p' : Post T (RD T) m h H σ (match small z0.length, atI z0 i with
          | true, some c => .ok (.str [c]) h
          | _, _ => .no) Q := p
        cases e1 : small z0.length with
        | false => rw [e1] at p'; exact p'.elim
        | true =>
          cases e2 : atI z0 i with
          | none => rw [e1, e2] at p'; exact p'.elim
          | some c =>
            rw [e1, e2] at p'
            cases q1; cases q2
            exact ix_str value slice pins s σ' H _ _ v u Q I r1 r2 ⟨_, i, c, rfl, rfl, by rw [len_mk]; exact small_line e1, e2, Post.here p' r (.str [c])⟩ hs
      | _ => exact seq i rfl p
    | _ => cases dx <;> exact p.elim
theorem je_ix (hu : T.X.A.units + 64 < cLine) (ha : JE T a fa) (hb : JE T b fb) (hs : PlainIx b := by exact fun _ _ => rfl) : JE T (.Subscript a b pos) (eBin oIx fa fb) := fun σ H m h ρ Q F p =>
  WE.of (pe_ix wix_ok we_pe we_pe hs) (ha σ H m h ρ _ F (p.bind fun x h1 vx H1 m1 r1 x1 q1 p1 => hb σ H1 m1 h1 ρ _ (F.step r1 x1) (p1.bind fun y h2 vy H2 m2 r2 x2 q2 p2 => ix_D hu H2 m2 h2 σ vx vy x y Q r2 (x2.isD r1 q1) q2 p2)))

/-! ### slices -/
abbrev EO := List D → Mh → Rs (Option Int)
def oNone : EO := fun _ h => .ok none h
def intD (d : D) (h : Mh) : Rs (Option Int) := match d with
  | .int i => .ok (some i) h
  | _ => .no
def oSome (f : EE) : EO := fun ρ h => (f ρ h).bind intD
abbrev RO (T : Tx) (H : Hp) (m : List Addr) (h : Mh) (v : Option Int) (d : Option Int) : Prop := v = d
structure WO (X : Cx) (e : Option Expr)  (σ : L2.St) (H : Hp) (Q : Option Int → Hp → Prop) : Prop where
  run : ∀ (pins : List (Addr × Obj)) (s : Shared), Inv X pins σ H s → wpAny (model X.prog X.w) X.A (evalPart e X.env) (fun u s' => ∃ o H', Inv X pins σ H' s' ∧ IsPart u o ∧ Q o H') X.xe s
theorem wo_po {X : Cx} {e : Option Expr} : PO X e (WO X e) := ⟨fun pins s _ _ _ I h => h.run pins s I⟩
theorem WO.of {X : Cx} {e : Option Expr} {t : TO} (p : PO X e t) {σ : L2.St} {H : Hp} {Q : Option Int → Hp → Prop} (h : t σ H Q) : WO X e σ H Q := .mk fun pins s I => p.run pins s σ H Q I h
def JO (T : Tx) (e : Option Expr) (f : EO) : Prop := ∀ σ H m h ρ Q, Fits T m ρ h σ H → Post T (RO T) m h H σ (f ρ h) Q → WO T.X e σ H Q
theorem jo_none : JO T none oNone := fun σ H m h ρ Q F p => WO.of po_none (p.here F.rep rfl)
theorem jo_some (he : JE T e f) : JO T (some e) (oSome f) := fun σ H m h ρ Q F p => WO.of (po_some we_pe) (he σ H m h ρ _ F (p.bind fun d h1 v H1 m1 r1 _ q1 p1 => by
  cases d with
  | int i => cases q1; exact ⟨i, rfl, Post.here p1 r1 rfl⟩
  | _ => exact p1.elim))
def cutL {α : Type} (xs : List α) (lo hi : Option Int) : List α := (xs.drop (HT.sIx xs.length 0 lo)).take (HT.sIx xs.length xs.length hi - HT.sIx xs.length 0 lo)
def oSl (d : D) (lo hi : Option Int) (h : Mh) : Rs D := match d with
  | .str s => match small s.length with
    | true => .ok (.str (cutL s lo hi)) h
    | false => .no
  | .tup ds => match decide (HT.sIx ds.length 0 lo = 0 ∧ HT.sIx ds.length ds.length hi = ds.length) with
    | true => .no
    | false => .ok (.tup (cutL ds lo hi)) h
  | d => match lstOf d h with
    | some ds => .ok (.lst (cutL ds lo hi)) h
    | none => .no
def eSl (f : EE) (gl gh : EO) : EE := fun ρ h => (f ρ h).bind fun d h1 => (gl ρ h1).bind fun l h2 => (gh ρ h2).bind fun u h3 => oSl d l u h3
structure wsl (X : Cx) (x : V) (lo hi : Option Int) (H : Hp) (Q : VK) : Prop where
  run : ∀ (pins : List (Addr × Obj)) (s : Shared) (σ : L2.St) (v vl vu : Value) (sl : Addr), Inv X pins σ H s → RelV x v → s.heap.IsSliceOf sl vl vu .none → IsPart vl lo → IsPart vu hi →
    ∃ T id, typeLookup (.type T) "__getitem__" = pure (some (.builtin id)) ∧ s.TypeIs v T ∧ wpAny (model X.prog X.w) X.A (getItem v (.ref sl)) (EP X pins σ Q) X.xe s
theorem wsl_ok {X : Cx} : SlR X (wsl X) := fun pins s σ _ _ v vl vu _ _ sl _ I r hs pl pu h => h.run pins s σ v vl vu sl I r hs pl pu
theorem IsDs.cut {K : PySem.W.Frag} {w : World} {H : Hp} {L : Addr → Prop} {m : List Addr} {xs : List V} {ds : List D} (q : IsDs K w H L m xs ds) (lo hi : Option Int) : IsDs K w H L m (cutV xs lo hi) (cutL ds lo hi) := by
  unfold cutV cutL
  rw [q.length]
  exact (q.drop _).take _
theorem sl_D (H : Hp) (m : List Addr) (h : Mh) (σ : L2.St) (x : V) (d : D) (lo hi : Option Int) (Q : VK) (r : Rep T.X.K T.X.w H m h) (q1 : RD T H m h x d) (p : Post T (RD T) m h H σ (oSl d lo hi h) Q) : wsl T.X x lo hi H Q := by
  refine .mk fun pins s σ' v vl vu sl I r1 hs pl pu => ?_
  have seq : Post T (RD T) m h H σ (match lstOf d h with
    | some ds => .ok (.lst (cutL ds lo hi)) h
    | none => .no) Q → ∃ U id, typeLookup (.type U) "__getitem__" = pure (some (.builtin id)) ∧ s.TypeIs v U ∧ wpAny (model T.X.prog T.X.w) T.X.A (getItem v (.ref sl)) (EP T.X pins σ' Q) T.X.xe s := fun pp => by
    cases e1 : lstOf d h with
    | none => rw [e1] at pp; exact pp.elim
    | some ds =>
      rw [e1] at pp
      obtain ⟨a, xs, rfl, f1, f2⟩ := lstOf_ok r q1 e1
      exact sl_list pins s σ' H _ v vl vu lo hi sl Q I r1 hs pl pu ⟨a, xs, rfl, f1, fun c hc => Post.new pp r hc (isLst r hc (f2.cut lo hi))⟩
  cases d with
  | str z =>
    have p' : Post T (RD T) m h H σ (match small z.length with
      | true => .ok (.str (cutL z lo hi)) h
      | false => .no) Q := p
    cases e1 : small z.length with
    | false => rw [e1] at p'; exact p'.elim
    | true =>
      rw [e1] at p'
      cases q1
      refine sl_str pins s σ' H _ v vl vu lo hi sl Q I r1 hs pl pu ⟨_, rfl, by rw [len_mk]; exact small_line e1, ?_⟩
      have e : cutS ⟨z.toArray⟩ lo hi = ⟨(cutL z lo hi).toArray⟩ := by
        unfold cutS cutL
        rw [len_mk]
      rw [e]
      exact Post.here p' r (.str _)
  | tup ds =>
    have p' : Post T (RD T) m h H σ (match decide (HT.sIx ds.length 0 lo = 0 ∧ HT.sIx ds.length ds.length hi = ds.length) with
      | true => .no
      | false => .ok (.tup (cutL ds lo hi)) h) Q := p
    cases e1 : decide (HT.sIx ds.length 0 lo = 0 ∧ HT.sIx ds.length ds.length hi = ds.length) with
    | true => rw [e1] at p'; exact p'.elim
    | false =>
      rw [e1] at p'
      cases q1 with
      | tup f1 f2 => exact sl_tup pins s σ' H _ v vl vu lo hi sl Q I r1 hs pl pu ⟨_, _, rfl, f1, by rw [f2.length]; exact of_decide_eq_false e1, fun c hc => Post.new p' r hc (isTup r hc (f2.cut lo hi))⟩
  | _ => exact seq p
theorem je_slice {lo hi : Option Expr} {gl gh : EO} {p2 : Pos} (ha : JE T a fa) (hl : JO T lo gl) (hh : JO T hi gh) : JE T (.Subscript a (.Slice lo hi none p2) pos) (eSl fa gl gh) := fun σ H m h ρ Q F p =>
  WE.of (pe_slice wsl_ok we_pe wo_po wo_po) (ha σ H m h ρ _ F (p.bind fun x h1 vx H1 m1 r1 x1 q1 p1 => hl σ H1 m1 h1 ρ _ (F.step r1 x1) (Post.bind p1 fun l h2 l' H2 m2 r2 x2 q2 p2 => hh σ H2 m2 h2 ρ _ ((F.step r1 x1).step r2 x2) (Post.bind p2 fun u h3 u' H3 m3 r3 x3 q3 p3 => by
    have e1 : l' = l := q2
    have e2 : u' = u := q3
    subst e1; subst e2
    exact sl_D H3 m3 h3 σ vx x l' u' Q r3 (x3.isD r2 (x2.isD r1 q1)) p3))))
end
end DL

namespace DL
open PySem PySem.Spec PyProof.Rows L2 TL
/-- how a statement ends -/
inductive Ss where
  | nx (ρ : List D) (h : Mh)
  | rt (d : D) (h : Mh)
  | bk (ρ : List D) (h : Mh)
  | ct (ρ : List D) (h : Mh)
  | xc (c : String) (fs : List (String × D)) (ρ : List D) (h : Mh)
  | no
abbrev SS := List D → Mh → Ss
def sE {α : Type} (r : Rs α) (ρ : List D) (k : α → Mh → Ss) : Ss := match r with
  | .ok d h => k d h
  | .ex c fs h => .xc c fs ρ h
  | .no => .no
def Ss.seq (r : Ss) (k : SS) : Ss := match r with
  | .nx ρ h => k ρ h
  | r => r
def PostS (T : Tx) (m : List Addr) (h : Mh) (H : Hp) (r : Ss) (Dn : Ends) : Prop := match r with
  | .nx ρ' h' => ∀ σ' H' m', Fits T m' ρ' h' σ' H' → Ext H m h H' m' h' → Dn.nx σ' H'
  | .rt d h' => ∀ v H' m', Rep T.X.K T.X.w H' m' h' → Ext H m h H' m' h' → RD T H' m' h' v d → Dn.rt v H'
  | .bk ρ' h' => ∀ σ' H' m', Fits T m' ρ' h' σ' H' → Ext H m h H' m' h' → Dn.bk σ' H'
  | .ct ρ' h' => ∀ σ' H' m', Fits T m' ρ' h' σ' H' → Ext H m h H' m' h' → Dn.ct σ' H'
  | .xc c fs ρ' h' => ∀ cls dd σ' H' m', Fits T m' ρ' h' σ' H' → Ext H m h H' m' h' → T.X.mg (Str.ofString c) = some cls → XF T.X.K T.X.w H' m' h' dd fs → T.W cls (some dd) σ' H'
  | .no => False
section
variable {T : Tx} {m m1 : List Addr} {h h1 : Mh} {H H1 : Hp} {σ σ1 : L2.St} {ρ : List D} {Dn Dn1 : Ends}
theorem PostS.step {r : Ss} (x : Ext H m h H1 m1 h1) (p : PostS T m h H r Dn) : PostS T m1 h1 H1 r Dn := by
  cases r with
  | nx ρ' h' => exact fun σ' H' m' a b => p σ' H' m' a (x.trans b)
  | rt d h' => exact fun v H' m' a b c => p v H' m' a (x.trans b) c
  | bk ρ' h' => exact fun σ' H' m' a b => p σ' H' m' a (x.trans b)
  | ct ρ' h' => exact fun σ' H' m' a b => p σ' H' m' a (x.trans b)
  | xc c fs ρ' h' => exact fun cls dd σ' H' m' a b => p cls dd σ' H' m' a (x.trans b)
  | no => exact p
theorem PostS.bindE {α β : Type} {R : Hp → List Addr → Mh → β → α → Prop} {r : Rs α} {k : α → Mh → Ss} {Q1 : β → Hp → Prop} (F : Fits T m ρ h σ H) (p : PostS T m h H (sE r ρ k) Dn)
    (f : ∀ a h1 b H1 m1, Rep T.X.K T.X.w H1 m1 h1 → Ext H m h H1 m1 h1 → R H1 m1 h1 b a → PostS T m1 h1 H1 (k a h1) Dn → Q1 b H1) : Post T R m h H σ r Q1 := by
  cases r with
  | ok d h' => exact fun v H' m' a b c => f d h' v H' m' a b c (PostS.step b p)
  | ex c fs h' => exact fun cls dd H' m' a b e x => p cls dd σ H' m' (F.step a b) b e x
  | no => exact p
/-- other ends -/
theorem PostS.seq {r : Ss} {k : SS} (p : PostS T m h H (r.seq k) Dn)
    (f : ∀ ρ1 h1 σ1 H1 m1, Fits T m1 ρ1 h1 σ1 H1 → Ext H m h H1 m1 h1 → PostS T m1 h1 H1 (k ρ1 h1) Dn → Dn1.nx σ1 H1) (e1 : Dn1.rt = Dn.rt) (e2 : Dn1.bk = Dn.bk) (e3 : Dn1.ct = Dn.ct) : PostS T m h H r Dn1 := by
  cases r with
  | nx ρ' h' => exact fun σ' H' m' a b => f ρ' h' σ' H' m' a b (PostS.step b p)
  | rt d h' => exact fun v H' m' a b c => by rw [e1]; exact p v H' m' a b c
  | bk ρ' h' => exact fun σ' H' m' a b => by rw [e2]; exact p σ' H' m' a b
  | ct ρ' h' => exact fun σ' H' m' a b => by rw [e3]; exact p σ' H' m' a b
  | xc c fs ρ' h' => exact p
  | no => exact p
end

/-! ### the judgements of statements -/
structure WS (X : Cx) (st : Stmt)  (Dn : Ends) (σ : L2.St) (H : Hp) : Prop where
  run : ∀ (pins : List (Addr × Obj)) (s : Shared), Inv X pins σ H s → wpAny (model X.prog X.w) X.A (exec st X.env) (SP X pins Dn) X.xe s
structure WSs (X : Cx) (st : List Stmt)  (Dn : Ends) (σ : L2.St) (H : Hp) : Prop where
  run : ∀ (pins : List (Addr × Obj)) (s : Shared), Inv X pins σ H s → wpAny (model X.prog X.w) X.A (execs st X.env) (SP X pins Dn) X.xe s
theorem ws_ps {X : Cx} {st : Stmt} : PS X st (WS X st) := ⟨fun pins s _ _ _ I h => h.run pins s I⟩
theorem wss_pss {X : Cx} {st : List Stmt} : PSs X st (WSs X st) := ⟨fun pins s _ _ _ I h => h.run pins s I⟩
theorem WS.of {X : Cx} {st : Stmt} {t : TS} (p : PS X st t) {σ : L2.St} {H : Hp} {Dn : Ends} (h : t Dn σ H) : WS X st Dn σ H := .mk fun pins s I => p.run pins s σ H Dn I h
theorem WSs.of {X : Cx} {st : List Stmt} {t : TS} (p : PSs X st t) {σ : L2.St} {H : Hp} {Dn : Ends} (h : t Dn σ H) : WSs X st Dn σ H := .mk fun pins s I => p.run pins s σ H Dn I h
def JS (T : Tx) (st : Stmt) (f : SS) : Prop := ∀ σ H m h ρ Dn, Fits T m ρ h σ H → PostS T m h H (f ρ h) Dn → WS T.X st Dn σ H
def JSs (T : Tx) (st : List Stmt) (f : SS) : Prop := ∀ σ H m h ρ Dn, Fits T m ρ h σ H → PostS T m h H (f ρ h) Dn → WSs T.X st Dn σ H
section
variable {T : Tx} {st : Stmt} {rest body orelse : List Stmt} {e a b c : Expr} {f g : SS} {fa fb : EE} {gc : EB} {pos : Pos}
def sNil : SS := fun ρ h => .nx ρ h
def sSeq (f g : SS) : SS := fun ρ h => (f ρ h).seq g
theorem jss_nil : JSs T [] sNil := fun σ H m h ρ Dn F p => WSs.of pss_nil (p σ H m F .refl)
theorem jss_cons (h1 : JS T st f) (h2 : JSs T rest g) : JSs T (st :: rest) (sSeq f g) := fun σ H m h ρ Dn F p =>
  WSs.of (pss_cons ws_ps wss_pss) (h1 σ H m h ρ _ F (PostS.seq p (fun ρ1 h1' σ1 H1 m1 F1 x1 p1 => h2 σ1 H1 m1 h1' ρ1 Dn F1 p1) rfl rfl rfl))
theorem jss_one (h1 : JS T st f) : JSs T [st] f := fun σ H m h ρ Dn F p => WSs.of (pss_one ws_ps) (h1 σ H m h ρ Dn F p)
/-- code that is not come to -/
def sNo : SS := fun _ _ => .no
theorem js_no : JS T st sNo := fun _ _ _ _ _ _ _ p => p.elim
theorem jss_no : JSs T rest sNo := fun _ _ _ _ _ _ _ p => p.elim
def sBk : SS := fun ρ h => .bk ρ h
def sCt : SS := fun ρ h => .ct ρ h
theorem js_pass : JS T (.Pass pos) sNil := fun σ H m h ρ Dn F p => WS.of ps_pass (p σ H m F .refl)
theorem js_break : JS T (.Break pos) sBk := fun σ H m h ρ Dn F p => WS.of ps_break (p σ H m F .refl)
theorem js_cont : JS T (.Continue pos) sCt := fun σ H m h ρ Dn F p => WS.of ps_continue (p σ H m F .refl)
def sRet (fa : EE) : SS := fun ρ h => sE (fa ρ h) ρ fun d h1 => .rt d h1
theorem js_ret (ha : JE T a fa) : JS T (.Return (some a) pos) (sRet fa) := fun σ H m h ρ Dn F p => WS.of (ps_ret we_pe) (ha σ H m h ρ _ F (PostS.bindE F p fun d h1 v H1 m1 r1 x1 q1 p1 => p1 v H1 m1 r1 .refl q1))
def sRetN : SS := fun _ h => .rt .non h
theorem js_retN : JS T (.Return none pos) sRetN := fun σ H m h ρ Dn F p => WS.of ps_retN (p .non H m F.rep .refl .non)
def sExpr (fa : EE) : SS := fun ρ h => sE (fa ρ h) ρ fun _ h1 => .nx ρ h1
theorem js_expr (ha : JE T a fa) (hs : swapsWith a none pos.line T.X.env = pure false := by rfl) : JS T (.Expr a pos) (sExpr fa) := fun σ H m h ρ Dn F p =>
  WS.of (ps_expr we_pe hs) (ha σ H m h ρ _ F (PostS.bindE F p fun d h1 v H1 m1 r1 x1 q1 p1 => p1 σ H1 m1 (F.step r1 x1) .refl))
def sIf (gc : EB) (f g : SS) : SS := fun ρ h => sE (gc ρ h) ρ fun k h1 => match k with
  | true => f ρ h1
  | false => g ρ h1
theorem js_if (hc : JT T c gc) (ha : JSs T body f) (hb : JSs T orelse g) : JS T (.If c body orelse pos) (sIf gc f g) := fun σ H m h ρ Dn F p =>
  WS.of (ps_if wt_pt wss_pss wss_pss) (hc σ H m h ρ _ F (PostS.bindE F p fun k h1 k' H1 m1 r1 x1 q1 p1 => by
    have e : k' = k := q1
    subst e
    cases k' with
    | true => rw [if_pos rfl]; exact ha σ H1 m1 h1 ρ Dn (F.step r1 x1) p1
    | false => rw [if_neg Bool.false_ne_true]; exact hb σ H1 m1 h1 ρ Dn (F.step r1 x1) p1))

/-! ### stores -/
def stv : List D → Nat → D → List D
  | [], _, _ => []
  | _ :: r, 0, d => d :: r
  | a :: r, i + 1, d => a :: stv r i d
theorem stv_len : ∀ (ρ : List D) (i : Nat) (d : D), (stv ρ i d).length = ρ.length
  | [], _, _ => rfl
  | _ :: _, 0, _ => rfl
  | _ :: r, i + 1, d => by unfold stv; rw [List.length_cons, stv_len r i d, List.length_cons]
theorem stv_at : ∀ (ρ : List D) (i : Nat) (d : D) (j : Nat), (stv ρ i d)[j]? = if i = j ∧ j < ρ.length then some d else ρ[j]?
  | [], i, d, j => by simp [stv]
  | a :: r, 0, d, 0 => by simp [stv]
  | a :: r, 0, d, j + 1 => by simp [stv]
  | a :: r, i + 1, d, 0 => by simp [stv]
  | a :: r, i + 1, d, j + 1 => by
    unfold stv
    rw [List.getElem?_cons_succ, stv_at r i d j, List.getElem?_cons_succ, List.length_cons]
    by_cases h : i = j ∧ j < r.length
    · rw [if_pos h, if_pos ⟨by omega, by omega⟩]
    · rw [if_neg h, if_neg (by omega)]
/-- the slot is not the exception's -/
def FreeSlot (T : Tx) (i : Nat) : Prop := ∀ x, T.xi = some x → x.i ≠ i
theorem Fits.set {m : List Addr} {h : Mh} {H : Hp} {σ : L2.St} {ρ : List D} {i : Nat} {v : V} {d : D} (F : Fits T m ρ h σ H) (q : RD T H m h v d) (hx : FreeSlot T i) : Fits T m (stv ρ i d) h (σ.set i (some v)) H := by
  refine ⟨F.rep, fun j d' e n => ?_, fun x e => ?_, by rw [stv_len, List.length_set]; exact F.len⟩
  · rw [stv_at] at e
    by_cases hj : i = j ∧ j < ρ.length
    · rw [if_pos hj] at e
      cases e
      obtain ⟨rfl, hl⟩ := hj
      exact ⟨v, List.getElem?_set_self (Nat.lt_of_lt_of_le hl F.len), q⟩
    · rw [if_neg hj] at e
      have hne : i ≠ j := fun z => hj ⟨z, by
        cases Nat.lt_or_ge j ρ.length with
        | inl h => exact h
        | inr h => rw [List.getElem?_eq_none h] at e; cases e⟩
      rw [List.getElem?_set_ne hne]
      exact F.env j d' e n
  · obtain ⟨e1, e2⟩ := F.exc x e
    rw [List.getElem?_set_ne (Ne.symm (hx x e))]
    exact ⟨e1, e2⟩
def sSet (i : Nat) (fa : EE) : SS := fun ρ h => sE (fa ρ h) ρ fun d h1 => .nx (stv ρ i d) h1
theorem js_set {i : Nat} {x : Str} {pos' : Pos} (ha : JE T e fa) (hN : T.X.N.Nodup) (hx : Loc T.X.env.scope x) (hi : T.X.N[i]? = some x := by rfl) (hs : swapsWith e (some (.Name x pos')) pos.line T.X.env = pure false := by rfl)
    (hf : T.X.fn x = true ∨ T.X.env.scope.names.lookup x = some .local := by first | exact .inl rfl | exact .inr rfl | assumption) (hfree : FreeSlot T i := by exact fun _ z => nomatch z) : JS T (.Assign [.Name x pos'] e pos) (sSet i fa) := fun σ H m h ρ Dn F p =>
  WS.of (ps_set hN hi hx we_pe hs hf) (ha σ H m h ρ _ F (PostS.bindE F p fun d h1 v H1 m1 r1 x1 q1 p1 => p1 _ H1 m1 ((F.step r1 x1).set q1 hfree) .refl))

/-! ### targets -/
abbrev GG := D → List D → Mh → Option (List D × Mh)
structure WG (X : Cx) (tg : Expr)  (v : V) (σ : L2.St) (H : Hp) (Q : L2.St → Hp → Prop) : Prop where
  run : ∀ (pins : List (Addr × Obj)) (s : Shared) (u : Value), Inv X pins σ H s → RelV v u → wpAny (model X.prog X.w) X.A (assign tg X.env u) (fun _ s' => ∃ σ' H', Inv X pins σ' H' s' ∧ Q σ' H') X.xe s
theorem wg_pg {X : Cx} {tg : Expr} : PG X tg (WG X tg) := ⟨fun pins s _ _ _ u _ I r h => h.run pins s u I r⟩
theorem WG.of {X : Cx} {tg : Expr} {t : TG} (p : PG X tg t) {v : V} {σ : L2.St} {H : Hp} {Q : L2.St → Hp → Prop} (h : t v σ H Q) : WG X tg v σ H Q := .mk fun pins s u I r => p.run pins s σ H v u Q I r h
def JG (T : Tx) (tg : Expr) (g : GG) : Prop := ∀ σ H m h ρ v d ρ' h' Q, Fits T m ρ h σ H → RD T H m h v d → g d ρ h = some (ρ', h') → (∀ σ' H' m', Fits T m' ρ' h' σ' H' → Ext H m h H' m' h' → Q σ' H') → WG T.X tg v σ H Q
def gN (i : Nat) : GG := fun d ρ h => some (stv ρ i d, h)
theorem jg_name {i : Nat} {x : Str} (hN : T.X.N.Nodup) (hx : Loc T.X.env.scope x) (hi : T.X.N[i]? = some x := by rfl) (hf : T.X.fn x = true ∨ T.X.env.scope.names.lookup x = some .local := by first | exact .inl rfl | exact .inr rfl | assumption) (hfree : FreeSlot T i := by exact fun _ z => nomatch z) : JG T (.Name x pos) (gN i) :=
  fun σ H m h ρ v d ρ' h' Q F q e k => by
    cases e
    exact WG.of (pg_name hN hi hx hf) (k _ H m (F.set q hfree) .refl)
abbrev GGs := List D → List D → Mh → Option (List D × Mh)
structure WGs (X : Cx) (ts : List Expr)  (vs : List V) (σ : L2.St) (H : Hp) (Q : L2.St → Hp → Prop) : Prop where
  run : ∀ (pins : List (Addr × Obj)) (s : Shared) (us : List Value), Inv X pins σ H s → Vals vs us → wpAny (model X.prog X.w) X.A (assignInOrder ((assignEach ts X.env).map (·.2)) us) (fun _ s' => ∃ σ' H', Inv X pins σ' H' s' ∧ Q σ' H') X.xe s
theorem wgs_pgs {X : Cx} {ts : List Expr} : PGs X ts (WGs X ts) := ⟨fun pins s _ _ _ us _ I r h => h.run pins s us I r⟩
theorem WGs.of {X : Cx} {ts : List Expr} {t : TGs} (p : PGs X ts t) {vs : List V} {σ : L2.St} {H : Hp} {Q : L2.St → Hp → Prop} (h : t vs σ H Q) : WGs X ts vs σ H Q := .mk fun pins s us I r => p.run pins s σ H vs us Q I r h
def JGs (T : Tx) (ts : List Expr) (g : GGs) : Prop := ∀ σ H m h ρ vs ds ρ' h' Q, Fits T m ρ h σ H → RL T H m h vs ds → g ds ρ h = some (ρ', h') → (∀ σ' H' m', Fits T m' ρ' h' σ' H' → Ext H m h H' m' h' → Q σ' H') → WGs T.X ts vs σ H Q
def gsNil : GGs := fun ds ρ h => match ds with
  | [] => some (ρ, h)
  | _ => none
def gsCons (g : GG) (gs : GGs) : GGs := fun ds ρ h => match ds with
  | d :: r => match g d ρ h with
    | some (ρ1, h1) => gs r ρ1 h1
    | none => none
  | [] => none
theorem jgs_nil : JGs T [] gsNil := fun σ H m h ρ vs ds ρ' h' Q F q e k => by
  cases ds with
  | nil => cases e; cases q; exact WGs.of pgs_nil ⟨rfl, k σ H m F .refl⟩
  | cons d r => cases e
theorem jgs_cons {ts : List Expr} {g : GG} {gs : GGs} (h1 : JG T e g) (h2 : JGs T ts gs) (hs : (assignEach (e :: ts) T.X.env).map (·.2) = assign e T.X.env :: (assignEach ts T.X.env).map (·.2) := by rfl) : JGs T (e :: ts) (gsCons g gs) :=
  fun σ H m h ρ vs ds ρ' h' Q F q ee k => by
    cases ds with
    | nil => cases ee
    | cons d r =>
      cases q with
      | @cons v _ vs _ q1 q2 =>
        unfold gsCons at ee
        cases z : g d ρ h with
        | none => simp only [z] at ee; cases ee
        | some y =>
          obtain ⟨ρ1, h1'⟩ := y
          simp only [z] at ee
          exact WGs.of (pgs_cons wg_pg wgs_pgs hs) ⟨v, vs, rfl, h1 σ H m h ρ v d ρ1 h1' _ F q1 z fun σ1 H1 m1 F1 x1 => h2 σ1 H1 m1 h1' ρ1 vs r ρ' h' Q F1 (x1.isDs F.rep q2) ee fun σ2 H2 m2 F2 x2 => k σ2 H2 m2 F2 (x1.trans x2)⟩
/-- a, b, .. = a tuple of that length -/
def gTupD (n : Nat) (gs : GGs) : GG := fun d ρ h => match d with
  | .tup ds => match decide (ds.length = n) with
    | true => gs ds ρ h
    | false => none
  | _ => none
theorem jg_tup {es : List Expr} {k : Nat} {gs : GGs} {n : Nat} (hc : T.X.calm = true) (hg : JGs T es gs) (hn : (assignEach es T.X.env).length = n := by rfl) (hst : (assignEach es T.X.env).findIdx? (·.1) = none := by rfl) : JG T (.Tuple es k pos) (gTupD n gs) :=
  fun σ H m h ρ v d ρ' h' Q F q e kk => by
    cases q with
    | @tup a xs ds e1 q1 =>
      unfold gTupD at e
      cases z : decide (ds.length = n) with
      | false => simp only [z] at e; cases e
      | true =>
        simp only [z] at e
        exact WG.of (pg_tup hc wgs_pgs hn hst) ⟨a, xs, rfl, e1, by rw [q1.length]; exact of_decide_eq_true z, hg σ H m h ρ xs ds ρ' h' Q F q1 e kk⟩
    | _ => cases e
/-- target = value -/
def sAsg (g : GG) (fa : EE) : SS := fun ρ h => sE (fa ρ h) ρ fun d h1 => match g d ρ h1 with
  | some (ρ', h') => .nx ρ' h'
  | none => .no
theorem js_asg {tg : Expr} {g : GG} (ha : JE T e fa) (hg : JG T tg g) (hs : swapsWithSole [tg] e pos.line T.X.env = pure false := by rfl) (hw : swappedStores [tg] e T.X.env = pure none := by rfl) (h1 : (assignEach [tg] T.X.env).map (·.2) = [assign tg T.X.env] := by rfl) :
    JS T (.Assign [tg] e pos) (sAsg g fa) := fun σ H m h ρ Dn F p =>
  WS.of (ps_asg we_pe wg_pg hs hw h1) (ha σ H m h ρ _ F (PostS.bindE F p fun d h1 v H1 m1 r1 x1 q1 p1 => by
    cases z : g d ρ h1 with
    | none => simp only [z] at p1; exact p1.elim
    | some y =>
      obtain ⟨ρ', h'⟩ := y
      simp only [z] at p1
      exact hg σ H1 m1 h1 ρ v d ρ' h' _ (F.step r1 x1) q1 z fun σ' H' m' F' x' => p1 σ' H' m' F' x'))
/-- x, y = a, b with plain local names -/
def sPar (i j : Nat) (fl : EL) : SS := fun ρ h => sE (fl ρ h) ρ fun ds h1 => match ds with
  | [d, d'] => .nx (stv (stv ρ i d) j d') h1
  | _ => .no
theorem js_par {i j : Nat} {x y : Str} {px py pt : Pos} {kt k2 pt2} {fl : EL} (hc : T.X.calm = true) (hN : T.X.N.Nodup) (ha : JA T [a, b] fl) (hij : i ≠ j) (hx : T.X.env.scope.names.lookup x = some .local) (hy : T.X.env.scope.names.lookup y = some .local)
    (hw : swappedStores [.Tuple [.Name x px, .Name y py] kt pt] (.Tuple [a, b] k2 pt2) T.X.env = pure (some [x, y])) (hi : T.X.N[i]? = some x := by rfl) (hj : T.X.N[j]? = some y := by rfl)
    (hs : swapsWithSole [.Tuple [.Name x px, .Name y py] kt pt] (.Tuple [a, b] k2 pt2) pos.line T.X.env = pure false := by rfl) (f1 : FreeSlot T i := by exact fun _ z => nomatch z) (f2 : FreeSlot T j := by exact fun _ z => nomatch z) :
    JS T (.Assign [.Tuple [.Name x px, .Name y py] kt pt] (.Tuple [a, b] k2 pt2) pos) (sPar i j fl) := fun σ H m h ρ Dn F p =>
  WS.of (ps_par hc hN hi hj hij hx hy wa_pa hw hs) (ha σ H m h ρ _ F (PostS.bindE F p fun ds h1 vs H1 m1 r1 x1 q1 p1 => by
    cases q1 with
    | nil => exact p1.elim
    | @cons v d vs ds q q1 =>
      cases q1 with
      | nil => exact p1.elim
      | @cons v' d' vs ds q' q1 =>
        cases q1 with
        | nil => exact ⟨v, v', rfl, p1 _ H1 m1 (((F.step r1 x1).set q f1).set q' f2) .refl⟩
        | cons _ _ => exact p1.elim))
end
end DL

namespace DL
open PySem PySem.Spec PyProof.Rows L2 TL
section
variable {T : Tx} {body orelse : List Stmt} {e a b c tg iter : Expr} {f g : SS} {fa fb fe : EE} {gc : EB} {pos : Pos}
/-! ### while -/
def whl (c : EB) (b : SS) : Nat → SS
  | 0, _, _ => .no
  | n + 1, ρ, h => sE (c ρ h) ρ fun k h1 => match k with
    | false => .nx ρ h1
    | true => match b ρ h1 with
      | .nx ρ' h' => whl c b n ρ' h'
      | .ct ρ' h' => whl c b n ρ' h'
      | .bk ρ' h' => .nx ρ' h'
      | r => r
/-- fu: a bound of the turns -/
def sWhile (fu : List D → Mh → Nat) (c : EB) (b : SS) : SS := fun ρ h => whl c b (fu ρ h) ρ h
theorem PostS.loop {m : List Addr} {h : Mh} {H : Hp} {r : Ss} {k : SS} {Dn : Ends} {N : L2.St → Hp → Prop} (p : PostS T m h H (match r with
      | .nx ρ' h' => k ρ' h'
      | .ct ρ' h' => k ρ' h'
      | .bk ρ' h' => .nx ρ' h'
      | r => r) Dn) (hN : ∀ ρ1 h1 σ1 H1 m1, Fits T m1 ρ1 h1 σ1 H1 → Ext H m h H1 m1 h1 → PostS T m1 h1 H1 (k ρ1 h1) Dn → N σ1 H1) : PostS T m h H r { Dn with nx := N, ct := N, bk := Dn.nx } := by
  cases r with
  | nx ρ' h' => exact fun σ' H' m' a b => hN ρ' h' σ' H' m' a b (PostS.step b p)
  | ct ρ' h' => exact fun σ' H' m' a b => hN ρ' h' σ' H' m' a b (PostS.step b p)
  | bk ρ' h' => exact p
  | rt d h' => exact p
  | xc c fs ρ' h' => exact p
  | no => exact p
theorem js_while (fu : List D → Mh → Nat) (hp : Pw T) (hc : JT T c gc) (hb : JSs T body f) : JS T (.While c body [] pos) (sWhile fu gc f) := fun σ H m h ρ Dn F p =>
  WS.of (ps_while hp.p wt_pt wss_pss) (by
    refine ⟨fun n σ H => ∃ m h ρ, Fits T m ρ h σ H ∧ PostS T m h H (whl gc f n ρ h) Dn, ⟨fu ρ h, m, h, ρ, F, p⟩, ?_⟩
    rintro n σ1 H1 ⟨m1, h1, ρ1, F1, p1⟩
    cases n with
    | zero => exact p1.elim
    | succ n =>
      refine hc σ1 H1 m1 h1 ρ1 _ F1 (PostS.bindE F1 p1 fun k h2 k' H2 m2 r2 x2 q2 p2 => ?_)
      have e : k' = k := q2
      subst e
      have F2 := F1.step r2 x2
      cases k' with
      | false => rw [if_neg Bool.false_ne_true]; exact p2 σ1 H2 m2 F2 .refl
      | true =>
        rw [if_pos rfl]
        exact ⟨fun σ' H' => ∃ m h ρ, Fits T m ρ h σ' H' ∧ PostS T m h H' (whl gc f n ρ h) Dn, fun σ' H' q => ⟨n, Nat.lt_succ_self _, q⟩,
          hb σ1 H2 m2 h2 ρ1 _ F2 (PostS.loop (k := whl gc f n) p2 fun ρ3 h3 σ3 H3 m3 F3 x3 p3 => ⟨m3, h3, ρ3, F3, p3⟩)⟩)

/-! ### what a for walks -/
/-- items that are told at the start -/
structure ItOk (T : Tx) (m0 : List Addr) (h0 : Mh) (H0 : Hp) (J : It) (ds : List D) : Prop where
  stop : ∀ m h H i, Rep T.X.K T.X.w H m h → Ext H0 m0 h0 H m h → ds.length ≤ i → J.stop i H
  go : ∀ m h H i d, Rep T.X.K T.X.w H m h → Ext H0 m0 h0 H m h → ds[i]? = some d → J.go i H ∧ ∀ x H', J.yld i H x H' → Rep T.X.K T.X.w H' m h ∧ Ext H m h H' m h ∧ RD T H' m h x d
structure WI (X : Cx) (tg iter : Expr)  (σ : L2.St) (H : Hp) (R : It → Hp → Prop) : Prop where
  run : ∀ (pins : List (Addr × Obj)) (s : Shared), Inv X pins σ H s → wpAny (model X.prog X.w) X.A (eval iter X.env) (fun v s1 => wpAny (model X.prog X.w) X.A (pyIter v) (PIE X pins σ tg R) X.xe s1) X.xe s
theorem wi_pi {X : Cx} {tg iter : Expr} : PI X tg iter (WI X tg iter) := ⟨fun pins s _ _ _ I h => h.run pins s I⟩
theorem WI.of {X : Cx} {tg iter : Expr} {t : TI} (p : PI X tg iter t) {σ : L2.St} {H : Hp} {R : It → Hp → Prop} (h : t σ H R) : WI X tg iter σ H R := .mk fun pins s I => p.run pins s σ H R I h
abbrev RI (T : Tx) (H : Hp) (m : List Addr) (h : Mh) (J : It) (ds : List D) : Prop := ItOk T m h H J ds
def JI (T : Tx) (tg iter : Expr) (f : EL) : Prop := ∀ σ H m h ρ R, Fits T m ρ h σ H → Post T (RI T) m h H σ (f ρ h) R → WI T.X tg iter σ H R
theorem SqT.inj {K : PySem.W.Frag} {H : Hp} {a : Addr} {xs : List V} (h : SqT K H a xs) : SqT K H a xs := h
def seqOf (d : D) (h : Mh) : Rs (List D) := match d with
  | .tup ds => .ok ds h
  | .lst ds => .ok ds h
  | .scr ns => .ok (ns.map D.int) h
  | _ => .no
def iSeq (fa : EE) : EL := fun ρ h => (fa ρ h).bind seqOf
theorem itt_ok {m : List Addr} {h : Mh} {H : Hp} {a0 : Addr} {xs : List V} {ds : List D} (r : Rep T.X.K T.X.w H m h) (e1 : SqT T.X.K H a0 xs) (q : RL T H m h xs ds) : ItOk T m h H (Itt T.X.K a0) ds where
  stop := fun m' h' H' i r' x' hl => ⟨xs, x'.sqT r e1, by rw [q.length]; exact hl⟩
  go := fun m' h' H' i d r' x' e => by
    obtain ⟨y, e2, q2⟩ := q.get e
    refine ⟨⟨xs, y, x'.sqT r e1, e2⟩, fun x H2 yl => ?_⟩
    obtain ⟨rfl, fx⟩ := yl
    have ex : x = y := Option.some.inj ((fx xs (x'.sqT r e1)).symm.trans e2)
    subst ex
    exact ⟨r', .refl, x'.isD r q2⟩
theorem itl_ok {m : List Addr} {h : Mh} {H : Hp} {a0 : Addr} {xs : List V} {ds : List D} (r : Rep T.X.K T.X.w H m h) (e1 : ∀ m' h' H', Ext H m h H' m' h' → SqL T.X.K H' a0 xs) (q : RL T H m h xs ds) : ItOk T m h H (Itl T.X.K a0) ds where
  stop := fun m' h' H' i r' x' hl => ⟨xs, e1 m' h' H' x', by rw [q.length]; exact hl⟩
  go := fun m' h' H' i d r' x' e => by
    obtain ⟨y, e2, q2⟩ := q.get e
    refine ⟨⟨xs, y, e1 m' h' H' x', e2⟩, fun x H2 yl => ?_⟩
    obtain ⟨rfl, fx⟩ := yl
    have ex : x = y := Option.some.inj ((fx xs (e1 m' h' _ x')).symm.trans e2)
    subst ex
    exact ⟨r', .refl, x'.isD r q2⟩
theorem ji_tup (ha : JE T iter fa) : JI T tg iter (fun ρ h => (fa ρ h).bind fun d h1 => match d with
    | .tup ds => .ok ds h1
    | _ => .no) := fun σ H m h ρ R F p => WI.of (pi_tup we_pe) (ha σ H m h ρ _ F (p.bind fun d h1 v H1 m1 r1 x1 q1 p1 => by
  cases q1 with
  | tup e1 q2 => exact ⟨_, rfl, ⟨_, e1⟩, Post.here p1 r1 (itt_ok r1 e1 q2)⟩
  | _ => exact p1.elim))
/-- a list that nobody changes, the script -/
def iLst (fa : EE) : EL := fun ρ h => (fa ρ h).bind fun d h1 => match d with
  | .lst ds => .ok ds h1
  | .scr ns => .ok (ns.map D.int) h1
  | _ => .no
theorem ji_lst (ha : JE T iter fa) : JI T tg iter (iLst fa) := fun σ H m h ρ R F p => WI.of (pi_list we_pe) (ha σ H m h ρ _ F (p.bind fun d h1 v H1 m1 r1 x1 q1 p1 => by
  cases q1 with
  | lst e1 q2 => exact ⟨_, rfl, ⟨_, e1.sq⟩, Post.here p1 r1 (itl_ok r1 (fun m' h' H' x => (x.fzL r1 e1).sq) q2)⟩
  | scr e1 => exact ⟨_, rfl, ⟨_, e1.sq⟩, Post.here p1 r1 (itl_ok r1 (fun m' h' H' x => (x.scr r1 e1).sq) (isDs_ints _))⟩
  | _ => exact p1.elim))
def iTup (fa : EE) : EL := fun ρ h => (fa ρ h).bind fun d h1 => match d with
    | .tup ds => .ok ds h1
    | _ => .no
/-- a text's signs -/
def iStrD (fa : EE) : EL := fun ρ h => (fa ρ h).bind fun d h1 => match d with
  | .str s => .ok (s.map fun c => D.str [c]) h1
  | _ => .no
theorem ji_str (ha : JE T iter fa) : JI T tg iter (iStrD fa) := fun σ H m h ρ R F p => WI.of (pi_str we_pe) (ha σ H m h ρ _ F (p.bind fun d h1 v H1 m1 r1 x1 q1 p1 => by
  cases q1 with
  | str s =>
    refine ⟨_, rfl, Post.here p1 r1 ⟨fun m' h' H' i r' x' hl => by
      show s.toArray.size ≤ i
      rw [List.length_map] at hl
      simpa using hl, fun m' h' H' i d r' x' e => ?_⟩⟩
    rw [List.getElem?_map] at e
    cases z : s[i]? with
    | none => rw [z] at e; cases e
    | some c =>
      rw [z] at e
      cases e
      have hi : i < s.length := (List.getElem?_eq_some_iff.mp z).1
      refine ⟨by show i < s.toArray.size; simpa using hi, fun x H2 yl => ?_⟩
      obtain ⟨rfl, c', e2, rfl⟩ := yl
      have ec : c' = c := by
        have e3 : s.toArray[i]? = some c' := e2
        rw [List.getElem?_toArray, z] at e3
        exact (Option.some.inj e3).symm
      subst ec
      exact ⟨r', .refl, .str [c']⟩
  | _ => exact p1.elim))
/-- range -/
def rngL (lo : Int) (n : Nat) : List D := (List.range n).map fun (k : Nat) => D.int (lo + (k : Int))
theorem itr_ok {m : List Addr} {h : Mh} {H : Hp} (lo : Int) (n : Nat) : ItOk T m h H (Itr lo n) (rngL lo n) where
  stop := fun m' h' H' i r' x' hl => by
    unfold rngL at hl
    rw [List.length_map, List.length_range] at hl
    exact hl
  go := fun m' h' H' i d r' x' e => by
    unfold rngL at e
    rw [List.getElem?_map] at e
    have hi : i < n := by
      cases Nat.lt_or_ge i n with
      | inl h => exact h
      | inr h => rw [List.getElem?_eq_none (by rw [List.length_range]; exact h)] at e; cases e
    rw [List.getElem?_range hi] at e
    cases e
    refine ⟨hi, fun x H2 yl => ?_⟩
    obtain ⟨rfl, rfl⟩ := yl
    exact ⟨r', .refl, .int _⟩
def rngOk (i : Int) : Bool := decide (-(2 ^ 62) ≤ i ∧ i < 2 ^ 62)
def iRng1 (fl : EL) : EL := fun ρ h => (fl ρ h).bind fun ds h1 => match ds with
  | [.int j] => match rngOk j with
    | true => .ok (rngL 0 j.toNat) h1
    | false => .no
  | _ => .no
def iRng2 (fl : EL) : EL := fun ρ h => (fl ρ h).bind fun ds h1 => match ds with
  | [.int i, .int j] => match rngOk i && rngOk j with
    | true => .ok (rngL i (j - i).toNat) h1
    | false => .no
  | _ => .no
theorem two_ints {m : List Addr} {h : Mh} {H : Hp} {vs : List V} {ds : List D} (q : RL T H m h vs ds) : (∃ i j, ds = [.int i, .int j] ∧ vs = [.int i, .int j]) ∨ (∃ i, ds = [.int i] ∧ vs = [.int i]) ∨ ((∀ i j, ds ≠ [.int i, .int j]) ∧ ∀ i, ds ≠ [.int i]) := by
  cases q with
  | nil => exact .inr (.inr ⟨fun _ _ z => (nomatch z), fun _ z => (nomatch z)⟩)
  | @cons v d vs ds q q1 =>
    cases q with
    | int i =>
      cases q1 with
      | nil => exact .inr (.inl ⟨i, rfl, rfl⟩)
      | @cons v2 d2 vs2 ds2 q2 q3 =>
        cases q3 with
        | nil =>
          cases q2 with
          | int j => exact .inl ⟨i, j, rfl, rfl⟩
          | _ => exact .inr (.inr ⟨fun _ _ z => (nomatch z), fun _ z => (nomatch z)⟩)
        | cons _ _ => exact .inr (.inr ⟨fun _ _ z => (nomatch z), fun _ z => (nomatch z)⟩)
    | _ => exact .inr (.inr ⟨fun _ _ z => (nomatch z), fun _ z => (nomatch z)⟩)
theorem ji_range1 {fl : EL} {p' : Pos} (hm : T.X.mg "range" = none) (ha : JA T [a] fl) (hg : Gl T.X "range" := by rfl) (hs : starEach [a] T.X.env = [(false, eval a T.X.env)] := by rfl) : JI T tg (.Call (.Name "range" p') [a] [] pos) (iRng1 fl) := fun σ H m h ρ R F p =>
  WI.of (pi_range1 hg hm wa_pa hs) (ha σ H m h ρ _ F (p.bind fun ds h1 vs H1 m1 r1 x1 q1 p1 => by
    rcases two_ints q1 with ⟨i, j, rfl, rfl⟩ | ⟨j, rfl, rfl⟩ | ⟨_, n⟩
    · exact p1.elim
    · have p2 : Post T (RI T) m1 h1 H1 σ (match rngOk j with
        | true => .ok (rngL 0 j.toNat) h1
        | false => .no) R := p1
      cases z : rngOk j with
      | false => rw [z] at p2; exact p2.elim
      | true =>
        rw [z] at p2
        exact ⟨j, rfl, (of_decide_eq_true z).1, (of_decide_eq_true z).2, Post.here p2 r1 (itr_ok 0 _)⟩
    · exfalso
      unfold Post at p1
      split at p1
      · rename_i e
        split at e
        · exact n _ rfl
        · cases e
      · rename_i e
        split at e
        · exact n _ rfl
        · cases e
      · exact p1))
theorem ji_range2 {fl : EL} {p' : Pos} (hm : T.X.mg "range" = none) (ha : JA T [a, b] fl) (hg : Gl T.X "range" := by rfl) (hs : starEach [a, b] T.X.env = [(false, eval a T.X.env), (false, eval b T.X.env)] := by rfl) (hs2 : starEach [b] T.X.env = [(false, eval b T.X.env)] := by rfl) :
    JI T tg (.Call (.Name "range" p') [a, b] [] pos) (iRng2 fl) := fun σ H m h ρ R F p =>
  WI.of (pi_range2 hg hm wa_pa hs hs2) (ha σ H m h ρ _ F (p.bind fun ds h1 vs H1 m1 r1 x1 q1 p1 => by
    rcases two_ints q1 with ⟨i, j, rfl, rfl⟩ | ⟨j, rfl, rfl⟩ | ⟨n, _⟩
    · have p2 : Post T (RI T) m1 h1 H1 σ (match rngOk i && rngOk j with
        | true => .ok (rngL i (j - i).toNat) h1
        | false => .no) R := p1
      cases z : rngOk i && rngOk j with
      | false => rw [z] at p2; exact p2.elim
      | true =>
        rw [z] at p2
        obtain ⟨z1, z2⟩ := Bool.and_eq_true_iff.mp z
        exact ⟨i, j, rfl, ⟨(of_decide_eq_true z1).1, (of_decide_eq_true z1).2, (of_decide_eq_true z2).1, (of_decide_eq_true z2).2⟩, Post.here p2 r1 (itr_ok i _)⟩
    · exact p1.elim
    · exfalso
      unfold Post at p1
      split at p1
      · rename_i e
        split at e
        · exact n _ _ rfl
        · cases e
      · rename_i e
        split at e
        · exact n _ _ rfl
        · cases e
      · exact p1))

/-- whatever it is -/
def iAny (fa : EE) : EL := fun ρ h => (fa ρ h).bind fun d h1 => match d with
  | .str s => .ok (s.map fun c => D.str [c]) h1
  | .tup ds => .ok ds h1
  | .lst ds => .ok ds h1
  | .scr ns => .ok (ns.map D.int) h1
  | _ => .no
theorem ji_any (ha : JE T iter fa) : JI T tg iter (iAny fa) := fun σ H m h ρ R F p => by
  unfold iAny at p
  cases z : fa ρ h with
  | no => rw [z] at p; exact p.elim
  | ex c fs h1 => exact ji_str ha σ H m h ρ R F (by unfold iStrD; rw [z] at p ⊢; exact p)
  | ok d h1 =>
    rw [z] at p
    cases d with
    | str s => exact ji_str ha σ H m h ρ R F (by unfold iStrD; rw [z]; exact p)
    | tup ds => exact ji_tup ha σ H m h ρ R F (by show Post T (RI T) m h H σ ((fa ρ h).bind _) R; rw [z]; exact p)
    | lst ds => exact ji_lst ha σ H m h ρ R F (by unfold iLst; rw [z]; exact p)
    | scr ns => exact ji_lst ha σ H m h ρ R F (by unfold iLst; rw [z]; exact p)
    | _ => exact p.elim
/-! ### for -/
def forL (g : GG) (b : SS) : List D → SS
  | [], ρ, h => .nx ρ h
  | d :: ds, ρ, h => match g d ρ h with
    | none => .no
    | some (ρ1, h1) => match b ρ1 h1 with
      | .nx ρ' h' => forL g b ds ρ' h'
      | .ct ρ' h' => forL g b ds ρ' h'
      | .bk ρ' h' => .nx ρ' h'
      | r => r
def sFor (fi : EL) (g : GG) (b : SS) : SS := fun ρ h => sE (fi ρ h) ρ fun ds h1 => forL g b ds ρ h1
theorem js_for {fi : EL} {gt : GG} (hp : Pw T) (hc : T.X.calm = true) (hi : JI T tg iter fi) (hg : JG T tg gt) (hb : JSs T body f) (hs : ∀ x, foldedSetIterable iter T.X.env x = pure x := by intro _; rfl) :
    JS T (.For tg iter body [] pos) (sFor fi gt f) := fun σ H m h ρ Dn F p =>
  WS.of (ps_for hp.p hc wi_pi wg_pg wss_pss hs) (hi σ H m h ρ _ F (PostS.bindE F p fun ds h1 J H1 m1 r1 x1 q1 p1 => by
    refine ⟨fun i k σ H => k = ds.length - i ∧ i ≤ ds.length ∧ ∃ m h ρ, Fits T m ρ h σ H ∧ Ext H1 m1 h1 H m h ∧ PostS T m h H (forL gt f (ds.drop i) ρ h) Dn, ⟨ds.length, by simp, Nat.zero_le _, m1, h1, ρ, F.step r1 x1, .refl, p1⟩, ?_⟩
    rintro i k σ2 H2 ⟨rfl, hi, m2, h2, ρ2, F2, x2, p2⟩
    by_cases hlt : i < ds.length
    · obtain ⟨go, yl⟩ := q1.go m2 h2 H2 i ds[i] F2.rep x2 (List.getElem?_eq_getElem hlt)
      refine .inr ⟨go, fun σ' H' => ∃ m h ρ, Fits T m ρ h σ' H' ∧ Ext H1 m1 h1 H' m h ∧ PostS T m h H' (forL gt f (ds.drop (i + 1)) ρ h) Dn, fun σ' H' ⟨m', h', ρ', F', x', p'⟩ => ⟨ds.length - (i + 1), by omega, rfl, hlt, m', h', ρ', F', x', p'⟩, fun x H3 y => ?_⟩
      obtain ⟨r3, x3, q3⟩ := yl x H3 y
      have p3 := PostS.step x3 p2
      rw [List.drop_eq_getElem_cons hlt] at p3
      unfold forL at p3
      cases z : gt ds[i] ρ2 h2 with
      | none => simp only [z] at p3; exact p3.elim
      | some y3 =>
        obtain ⟨ρ4, h4⟩ := y3
        simp only [z] at p3
        refine hg σ2 H3 m2 h2 ρ2 x ds[i] ρ4 h4 _ (F2.step r3 x3) q3 z fun σ5 H5 m5 F5 x5 => ?_
        have p5 := PostS.step x5 p3
        exact hb σ5 H5 m5 h4 ρ4 _ F5 (PostS.loop (k := forL gt f (ds.drop (i + 1))) p5 fun ρ6 h6 σ6 H6 m6 F6 x6 p6 => ⟨m6, h6, ρ6, F6, ((x2.trans x3).trans x5).trans x6, p6⟩)
    · have e : i = ds.length := by omega
      subst e
      rw [List.drop_length] at p2
      exact .inl ⟨q1.stop m2 h2 H2 _ F2.rep x2 (Nat.le_refl _), p2 σ2 H2 m2 F2 .refl⟩))
end
end DL

namespace DL
open PySem PySem.Spec PyProof.Rows L2 TL
/-! ### in, not in -/
def flatD : D → Bool
  | .non => true | .bl _ => true | .int _ => true | .str _ => true | _ => false
def eqF : D → D → Bool
  | .non, .non => true
  | .bl a, .bl b => a == b
  | .bl a, .int b => (if a then 1 else 0) == b
  | .int a, .bl b => a == (if b then 1 else 0)
  | .int a, .int b => a == b
  | .str a, .str b => decide (a = b)
  | _, _ => false
def seqL (d : D) (h : Mh) : Option (List D) := match d with
  | .tup ds => some ds
  | d => lstOf d h
/-- tables are asked for texts -/
def inKey (y : D) (k : DK) : Bool := match y, k with
  | .dic _, .inl _ => false
  | _, _ => true
/-- x in y -/
def inD (x y : D) (h : Mh) : Option Bool := match x, y with
  | .str [c], .str z => some (decide (c ∈ z))
  | x, y => match dicOf y h with
    | some kds => match keyD x with
      | some k => match inKey y k with
        | true => some (dlook kds k).isSome
        | false => none
      | none => none
    | none => match seqL y h with
      | some ds => match flatD x && ds.all flatD with
        | true => some (ds.any fun y => eqF y x)
        | false => none
      | none => none
def oIn : O2 := fun x y h => match inD x y h with
  | some k => .ok (.bl k) h
  | none => .no
def oNotIn : O2 := fun x y h => match inD x y h with
  | some k => .ok (.bl (!k)) h
  | none => .no
section
variable {T : Tx}
theorem flat_ok {m : List Addr} {h : Mh} {H : Hp} {x : V} {d : D} (q : RD T H m h x d) (f : flatD d = true) : flatV x = true := by cases q <;> first | rfl | cases f
theorem eqF_ok {m : List Addr} {h : Mh} {H : Hp} {x y : V} {d e : D} (q1 : RD T H m h x d) (q2 : RD T H m h y e) : eqV x y = eqF d e := by
  cases q1 <;> cases q2 <;> first | rfl | skip
  rename_i a b
  show ((⟨a.toArray⟩ : Str) == ⟨b.toArray⟩) = decide (a = b)
  by_cases z : a = b
  · subst z; simp
  · rw [decide_eq_false z]
    exact beq_eq_false_iff_ne.mpr fun w => z (mk_inj w)
theorem all_flat {m : List Addr} {h : Mh} {H : Hp} : ∀ {ds : List D} {xs : List V}, RL T H m h xs ds → ds.all flatD = true → xs.all flatV = true
  | [], _, q, _ => by cases q; rfl
  | d :: ds, _, q, f => by
    cases q with
    | cons q1 q2 =>
      rw [List.all_cons, Bool.and_eq_true] at f ⊢
      exact ⟨flat_ok q1 f.1, all_flat q2 f.2⟩
theorem any_eqF {m : List Addr} {h : Mh} {H : Hp} {x : V} {d : D} (q : RD T H m h x d) : ∀ {ds : List D} {xs : List V}, RL T H m h xs ds → inV x xs = ds.any fun y => eqF y d
  | [], _, q' => by cases q'; rfl
  | e :: ds, _, q' => by
    cases q' with
    | cons q1 q2 =>
      have ih := any_eqF q q2
      unfold inV at ih ⊢
      rw [List.any_cons, List.any_cons, eqF_ok q1 q, ih]
theorem seqL_ok {m : List Addr} {h : Mh} {H : Hp} {x : V} {d : D} {ds : List D} (r : Rep T.X.K T.X.w H m h) (q : RD T H m h x d) (e : seqL d h = some ds) : ∃ a xs, x = .ref a ∧ (SqL T.X.K H a xs ∨ SqT T.X.K H a xs) ∧ RL T H m h xs ds := by
  have go : lstOf d h = some ds → ∃ a xs, x = .ref a ∧ (SqL T.X.K H a xs ∨ SqT T.X.K H a xs) ∧ RL T H m h xs ds := fun e => by
    obtain ⟨a, xs, e1, e2, e3⟩ := lstOf_ok r q e
    exact ⟨a, xs, e1, .inl e2, e3⟩
  cases d with
  | tup ds' =>
    cases e
    cases q with
    | tup e1 q1 => exact ⟨_, _, rfl, .inr e1, q1⟩
  | _ => exact go e
/-- a dict: tracked, or a table of the module's -/
theorem dic_get {m : List Addr} {h : Mh} {H : Hp} {x : V} {d : D} {kds : List (DK × D)} (r : Rep T.X.K T.X.w H m h) (q : RD T H m h x d) (e : dicOf d h = some kds) : ∃ a kvs, x = .ref a ∧ IsKs T.X.K T.X.w H (Live m h) m kvs kds ∧
    (H a = some (.dK kvs) ∨ ∃ es n, KDict T.X.K T.X.w a es n ∧ (∀ i : Int, valV kvs (.inl i) = none) ∧ ∀ z : Str, ∃ r, PySem.W.nsIn T.X.K a z = some r ∧ RelO (valV kvs (.inr z)) r) := by
  cases q with
  | dic e1 i1 =>
    cases e
    refine ⟨_, _, rfl, i1, ?_⟩
    rcases e1 with ⟨e1, _⟩ | e1
    · exact .inl e1
    · exact .inr e1
  | @ref n a e1 =>
    unfold dicOf at e
    cases z4 : h[n]? with
    | none => simp only [z4] at e; cases e
    | some o =>
      cases o with
      | dic kds' =>
        simp only [z4] at e
        cases e
        obtain ⟨kvs, f1, f2⟩ := r.ob n a _ e1 z4
        exact ⟨a, kvs, rfl, f2, .inl f1⟩
      | lst _ => simp only [z4] at e; cases e
      | dead => simp only [z4] at e; cases e
  | _ => cases e
theorem dlook_some {K : PySem.W.Frag} {w : World} {H : Hp} {L : Addr → Prop} {m : List Addr} {kds : List (DK × D)} {kvs : List (Key × V)} (k : DK) (i : IsKs K w H L m kvs kds) : (valV kvs (kk k)).isSome = (dlook kds k).isSome := by
  obtain ⟨a, b⟩ := dlook_ok k i
  cases e : dlook kds k with
  | none => rw [b e]; rfl
  | some d =>
    obtain ⟨v, e1, _⟩ := a d e
    rw [e1]; rfl
theorem in_dict (hu : T.X.A.units + 64 < cLine) {m : List Addr} {h : Mh} {H : Hp} {x y : V} {dx dy : D} {kds : List (DK × D)} {k : DK} (r : Rep T.X.K T.X.w H m h) (q1 : RD T H m h x dx) (q2 : RD T H m h y dy) (e : dicOf dy h = some kds) (ek : keyD dx = some k) (ik : inKey dy k = true) (neg : Bool) (Q : VK) (p : Q (.bl (if neg then !(dlook kds k).isSome else (dlook kds k).isSome)) H) :
    wop2 T.X (compareOp (if neg then .NotIn else .In)) x y H Q := by
  refine .mk fun pins s σ v u I r1 r2 => ?_
  obtain ⟨a, kvs, rfl, i1, hd⟩ := dic_get r q2 e
  have ex := keyD_ok q1 ek
  obtain rfl : u = Value.ref a := r2
  rcases hd with hd | ⟨es, n, kd, hn, hz⟩
  · have g : DGet H a x (valV kvs (kk k)) := .inl ⟨kvs, kk k, .inl hd, ex, rfl⟩
    cases neg with
    | true => exact d_notIn (by omega) I g r1 fun s' I' => ⟨.bl _, H, I', rfl, by rw [dlook_some k i1]; exact p⟩
    | false => exact d_in (by omega) I g r1 fun s' I' => ⟨.bl _, H, I', rfl, by rw [dlook_some k i1]; exact p⟩
  · cases k with
    | inl i =>
      cases q2 with
      | dic e1 i1 => cases ik
      | @ref n' a' e1 =>
        unfold dicOf at e
        cases z4 : h[n']? with
        | none => simp only [z4] at e; cases e
        | some o =>
          cases o with
          | dic kds' =>
            obtain ⟨kvs', f1, f2⟩ := r.ob n' _ _ e1 z4
            have kin := (I.kIn _ _ kd.at_)
            have nb := I.bs _ _ (I.ok.mod.kin _ _ kd.at_)
            rw [f1] at nb
            exact absurd nb.2 (by simp)
          | lst _ => simp only [z4] at e; cases e
          | dead => simp only [z4] at e; cases e
      | _ => cases e
    | inr z =>
      obtain ⟨r0, e3, e4⟩ := hz ⟨z.toArray⟩
      have es' : r0.isSome = (dlook kds (.inr z)).isSome := by
        rw [← dlook_some (.inr z) i1]
        show _ = (valV kvs (.inr ⟨z.toArray⟩)).isSome
        cases e5 : valV kvs (.inr ⟨z.toArray⟩) with
        | none => rw [e5] at e4; rw [e4.none_of]; rfl
        | some v0 => rw [e5] at e4; obtain ⟨u0, e6, _⟩ := e4.some_of; rw [e6]; rfl
      cases neg with
      | true => exact op_notIn_kd kd pins s σ H x (.ref a) v _ Q I r1 rfl ⟨_, r0, ex, rfl, e3, by rw [es']; exact p⟩
      | false => exact op_in_kd kd pins s σ H x (.ref a) v _ Q I r1 rfl ⟨_, r0, ex, rfl, e3, by rw [es']; exact p⟩
theorem inD_ok (hu : T.X.A.units + 64 < cLine) {m : List Addr} {h : Mh} {H : Hp} {x y : V} {dx dy : D} {k : Bool} (r : Rep T.X.K T.X.w H m h) (q1 : RD T H m h x dx) (q2 : RD T H m h y dy) (e : inD dx dy h = some k) (neg : Bool) (Q : VK) (p : Q (.bl (if neg then !k else k)) H) :
    wop2 T.X (compareOp (if neg then .NotIn else .In)) x y H Q := by
  have gen : (match dicOf dy h with
    | some kds => match keyD dx with
      | some k => match inKey dy k with
        | true => some (dlook kds k).isSome
        | false => none
      | none => none
    | none => match seqL dy h with
      | some ds => match flatD dx && ds.all flatD with
        | true => some (ds.any fun y => eqF y dx)
        | false => none
      | none => none) = some k → wop2 T.X (compareOp (if neg then .NotIn else .In)) x y H Q := fun e => by
    cases e1 : dicOf dy h with
    | some kds =>
      rw [e1] at e
      simp only at e
      cases e2 : keyD dx with
      | none => rw [e2] at e; cases e
      | some k' =>
        rw [e2] at e
        simp only at e
        cases e3 : inKey dy k' with
        | false => rw [e3] at e; cases e
        | true =>
          rw [e3] at e
          cases e
          exact in_dict hu r q1 q2 e1 e2 e3 neg Q p
    | none =>
      rw [e1] at e
      simp only at e
      cases e2 : seqL dy h with
      | none => rw [e2] at e; cases e
      | some ds =>
        rw [e2] at e
        simp only at e
        cases e3 : flatD dx && ds.all flatD with
        | false => rw [e3] at e; cases e
        | true =>
          rw [e3] at e
          cases e
          obtain ⟨f1, f2⟩ := Bool.and_eq_true_iff.mp e3
          obtain ⟨a, xs, rfl, g1, g2⟩ := seqL_ok r q2 e2
          refine .mk fun pins s σ v u I r1 r2 => ?_
          cases neg with
          | true => exact op_notIn_seq pins s σ H x _ v u Q I r1 r2 ⟨a, xs, rfl, g1, flat_ok q1 f1, all_flat g2 f2, by rw [any_eqF q1 g2]; exact p⟩
          | false => exact op_in_seq pins s σ H x _ v u Q I r1 r2 ⟨a, xs, rfl, g1, flat_ok q1 f1, all_flat g2 f2, by rw [any_eqF q1 g2]; exact p⟩
  cases dx with
  | str c =>
    cases dy with
    | str z =>
      cases c with
      | nil => exact gen e
      | cons c r' =>
        cases r' with
        | nil =>
          cases e
          cases q1; cases q2
          refine .mk fun pins s σ v u I r1 r2 => ?_
          cases neg with
          | true => exact op_notIn_sign pins s σ H _ _ v u Q I r1 r2 ⟨c, _, rfl, rfl, p⟩
          | false => exact op_in_sign pins s σ H _ _ v u Q I r1 r2 ⟨c, _, rfl, rfl, p⟩
        | cons _ _ => exact gen e
    | _ => (cases c with
      | nil => exact gen e
      | cons c r' => cases r' <;> exact gen e)
  | _ => exact gen e
theorem os_in (hu : T.X.A.units + 64 < cLine) : OpS T (compareOp .In) oIn := fun H m h σ x y dx dy Q r q1 q2 p => by
  unfold oIn at p
  cases e : inD dx dy h with
  | none => rw [e] at p; exact p.elim
  | some k => rw [e] at p; exact inD_ok hu r q1 q2 e false Q (Post.here p r (.bl k))
theorem os_notin (hu : T.X.A.units + 64 < cLine) : OpS T (compareOp .NotIn) oNotIn := fun H m h σ x y dx dy Q r q1 q2 p => by
  unfold oNotIn at p
  cases e : inD dx dy h with
  | none => rw [e] at p; exact p.elim
  | some k => rw [e] at p; exact inD_ok hu r q1 q2 e true Q (Post.here p r (.bl (!k)))

/-! ### calls of built-ins -/
structure wcall (X : Cx) (f : Value)  (xs : List V) (H : Hp) (Q : VK) : Prop where
  run : ∀ (pins : List (Addr × Obj)) (s : Shared) (σ : L2.St) (us : List Value), Inv X pins σ H s → Vals xs us → wpAny (model X.prog X.w) X.A (call f us) (EP X pins σ Q) X.xe s
theorem wcall_ok {X : Cx} {f : Value} : CallR X f (wcall X f) := fun pins s σ _ _ us _ I r h => h.run pins s σ us I r
abbrev OL := List D → Mh → Rs D
def CallS (T : Tx) (f : Value) (g : OL) : Prop := ∀ H m h σ xs ds Q, Rep T.X.K T.X.w H m h → RL T H m h xs ds → Post T (RD T) m h H σ (g ds h) Q → wcall T.X f xs H Q
def eCall (g : OL) (fl : EL) : EE := fun ρ h => (fl ρ h).bind g
section
variable {e : Expr} {es : List Expr} {fl : EL} {g : OL} {x : Str} {p pos : Pos} {id : String}
theorem je_callB (hc : CallS T (.builtin id) g) (hm : T.X.mg x = none) (hv : bootBuiltins x = some (.builtin id)) (ha : JA T (e :: es) fl) (hg : Gl T.X x := by rfl) (hn : x ≠ "__name__" := by decide) (hdb : (x == ("__debug__" : Str)) = false := by decide)
    (he : starEach (e :: es) T.X.env = (false, eval e T.X.env) :: starEach es T.X.env := by rfl) (hpl : (backTo pos (starEach es T.X.env)).any (·.1) = false := by rfl) : JE T (.Call (.Name x p) (e :: es) [] pos) (eCall g fl) := fun σ H m h ρ Q F pp =>
  WE.of (pe_callB wcall_ok hg hm hv wa_pa hn hdb he hpl) (ha σ H m h ρ _ F (pp.bind fun ds h1 vs H1 m1 r1 x1 q1 p1 => hc H1 m1 h1 σ vs ds Q r1 q1 p1))
theorem je_callTy (hc : CallS T (.type id) g) (hm : T.X.mg x = none) (hv : bootBuiltins x = some (.type id)) (ha : JA T (e :: es) fl) (hg : Gl T.X x := by rfl) (hn : x ≠ "__name__" := by decide) (hdb : (x == ("__debug__" : Str)) = false := by decide)
    (he : starEach (e :: es) T.X.env = (false, eval e T.X.env) :: starEach es T.X.env := by rfl) (hpl : (backTo pos (starEach es T.X.env)).any (·.1) = false := by rfl) : JE T (.Call (.Name x p) (e :: es) [] pos) (eCall g fl) := fun σ H m h ρ Q F pp =>
  WE.of (pe_callTy wcall_ok hg hm hv wa_pa hn hdb he hpl) (ha σ H m h ρ _ F (pp.bind fun ds h1 vs H1 m1 r1 x1 q1 p1 => hc H1 m1 h1 σ vs ds Q r1 q1 p1))
end
/-- one argument -/
def one1 (g : O1) : OL := fun ds h => match ds with
  | [d] => g d h
  | _ => .no
theorem one_ok {g : O1} {m : List Addr} {h : Mh} {H : Hp} {σ : L2.St} {xs : List V} {ds : List D} {Q : VK} (q : RL T H m h xs ds) (p : Post T (RD T) m h H σ (one1 g ds h) Q) : ∃ x d, xs = [x] ∧ ds = [d] ∧ RD T H m h x d ∧ Post T (RD T) m h H σ (g d h) Q := by
  cases q with
  | nil => exact p.elim
  | @cons v d vs ds q q1 =>
    cases q1 with
    | nil => exact ⟨v, d, rfl, rfl, q, p⟩
    | cons _ _ => exact p.elim
def two2 (g : O2) : OL := fun ds h => match ds with
  | [d, e] => g d e h
  | _ => .no
theorem two_ok {g : O2} {m : List Addr} {h : Mh} {H : Hp} {σ : L2.St} {xs : List V} {ds : List D} {Q : VK} (q : RL T H m h xs ds) (p : Post T (RD T) m h H σ (two2 g ds h) Q) : ∃ x y d e, xs = [x, y] ∧ ds = [d, e] ∧ RD T H m h x d ∧ RD T H m h y e ∧ Post T (RD T) m h H σ (g d e h) Q := by
  cases q with
  | nil => exact p.elim
  | @cons v d vs ds q q1 =>
    cases q1 with
    | nil => exact p.elim
    | @cons v2 d2 vs2 ds2 q2 q3 =>
      cases q3 with
      | nil => exact ⟨v, v2, d, d2, rfl, rfl, q, q2, p⟩
      | cons _ _ => exact p.elim
def lenD : O1 := fun d h => match d with
  | .str s => match small s.length with
    | true => .ok (.int s.length) h
    | false => .no
  | d => match seqL d h with
    | some ds => .ok (.int ds.length) h
    | none => .no
theorem cs_len : CallS T (.builtin "len") (one1 lenD) := fun H m h σ xs ds Q r q p => by
  obtain ⟨x, d, rfl, rfl, q1, p1⟩ := one_ok q p
  have go : Post T (RD T) m h H σ (match seqL d h with
    | some ds => .ok (.int ds.length) h
    | none => .no) Q → wcall T.X (.builtin "len") [x] H Q := fun p2 => .mk fun pins s σ' us I rv => by
    cases e : seqL d h with
    | none => rw [e] at p2; exact p2.elim
    | some ds =>
      rw [e] at p2
      obtain ⟨a, ys, rfl, f1, f2⟩ := seqL_ok r q1 e
      exact call_len_seq pins s σ' H _ us Q I rv ⟨a, ys, rfl, f1, by rw [f2.length]; exact Post.here p2 r (.int _)⟩
  cases d with
  | str z =>
    have p2 : Post T (RD T) m h H σ (match small z.length with
      | true => .ok (.int z.length) h
      | false => .no) Q := p1
    cases e : small z.length with
    | false => rw [e] at p2; exact p2.elim
    | true =>
      rw [e] at p2
      cases q1
      exact .mk fun pins s σ' us I rv => call_len_str pins s σ' H _ us Q I rv ⟨_, rfl, by rw [len_mk]; exact small_line e, by rw [len_mk]; exact Post.here p2 r (.int _)⟩
  | _ => exact go p1
def absD : O1 := fun d h => match d with
  | .int i => .ok (.int (if i < 0 then -i else i)) h
  | _ => .no
theorem cs_abs : CallS T (.builtin "abs") (one1 absD) := fun H m h σ xs ds Q r q p => by
  obtain ⟨x, d, rfl, rfl, q1, p1⟩ := one_ok q p
  cases d with
  | int i => cases q1; exact .mk fun pins s σ' us I rv => call_abs pins s σ' H _ us Q I rv ⟨i, rfl, Post.here p1 r (.int _)⟩
  | _ => exact p1.elim
/-- tuple(x) -/
def tupleD : O1 := fun d h => match d with
  | .tup ds => .ok (.tup ds) h
  | d => match lstOf d h with
    | some ds => .ok (.tup ds) h
    | none => .no
theorem cs_tuple : CallS T (.type "tuple") (one1 tupleD) := fun H m h σ xs ds Q r q p => by
  obtain ⟨x, d, rfl, rfl, q1, p1⟩ := one_ok q p
  have go : Post T (RD T) m h H σ (match lstOf d h with
    | some ds => .ok (.tup ds) h
    | none => .no) Q → wcall T.X (.type "tuple") [x] H Q := fun p2 => .mk fun pins s σ' us I rv => by
    cases e : lstOf d h with
    | none => rw [e] at p2; exact p2.elim
    | some ds =>
      rw [e] at p2
      obtain ⟨a, ys, rfl, f1, f2⟩ := lstOf_ok r q1 e
      exact call_tuple_of pins s σ' H _ us Q I rv ⟨a, ys, rfl, .inl ⟨f1, fun c hc => Post.new p2 r hc (isTup r hc f2)⟩⟩
  cases d with
  | tup ds =>
    cases q1 with
    | tup e1 q2 => exact .mk fun pins s σ' us I rv => call_tuple_of pins s σ' H _ us Q I rv ⟨_, _, rfl, .inr ⟨e1, Post.here p1 r (.tup e1 q2)⟩⟩
  | _ => exact go p1
/-- list(x), that nobody will change; that will change -/
def listD : O1 := fun d h => match seqL d h with
  | some ds => .ok (.lst ds) h
  | none => .no
def listM : O1 := fun d h => match seqL d h with
  | some ds => .ok (.ref h.length) (h ++ [.lst ds])
  | none => .no
theorem cs_list : CallS T (.type "list") (one1 listD) := fun H m h σ xs ds Q r q p => by
  obtain ⟨x, d, rfl, rfl, q1, p1⟩ := one_ok q p
  unfold listD at p1
  cases e : seqL d h with
  | none => rw [e] at p1; exact p1.elim
  | some ds =>
    rw [e] at p1
    obtain ⟨a, ys, rfl, f1, f2⟩ := seqL_ok r q1 e
    exact .mk fun pins s σ' us I rv => call_list_of pins s σ' H _ us Q I rv ⟨a, ys, rfl, f1, fun c hc => Post.new p1 r hc (isLst r hc f2)⟩
theorem cs_listM : CallS T (.type "list") (one1 listM) := fun H m h σ xs ds Q r q p => by
  obtain ⟨x, d, rfl, rfl, q1, p1⟩ := one_ok q p
  unfold listM at p1
  cases e : seqL d h with
  | none => rw [e] at p1; exact p1.elim
  | some ds =>
    rw [e] at p1
    obtain ⟨a, ys, rfl, f1, f2⟩ := seqL_ok r q1 e
    exact .mk fun pins s σ' us I rv => call_list_of pins s σ' H _ us Q I rv ⟨a, ys, rfl, f1, fun c hc => Post.allocL p1 r hc f2⟩
end
end DL

namespace DL
open PySem PySem.Spec PyProof.Rows L2 TL
section
variable {T : Tx}
/-! ### methods of built-in types -/
inductive Bt where | list | str | dict
def Bt.nm : Bt → String
  | .list => "list" | .str => "str" | .dict => "dict"
def Bt.is (b : Bt) (d : D) (h : Mh) : Bool := match b with
  | .list => (lstOf d h).isSome
  | .str => match d with
    | .str _ => true
    | _ => false
  | .dict => match d with
    | .ref _ => (dicOf d h).isSome
    | _ => false
theorem Bt.ok {b : Bt} {m : List Addr} {h : Mh} {H : Hp} {x : V} {d : D} (r : Rep T.X.K T.X.w H m h) (q : RD T H m h x d) (e : b.is d h = true) : tyV T.X.K b.nm x H := by
  cases b with
  | list =>
    obtain ⟨ds, e⟩ := Option.isSome_iff_exists.mp e
    obtain ⟨a, xs, rfl, f, _⟩ := lstOf_ok r q e
    exact .inl ⟨rfl, xs, f⟩
  | str =>
    cases q <;> first | rfl | cases e
  | dict =>
    cases d with
    | ref n =>
      obtain ⟨ds, e⟩ := Option.isSome_iff_exists.mp e
      obtain ⟨a, kvs, rfl, _, f⟩ := dic_get r q e
      rcases f with f | ⟨es, k, kd, _⟩
      · exact .inr (.inr (.inl ⟨rfl, .inl ⟨kvs, f⟩⟩))
      · cases q with
        | ref e1 =>
          unfold dicOf at e
          cases z4 : h[n]? with
          | none => simp only [z4] at e; cases e
          | some o =>
            cases o with
            | dic kds' =>
              obtain ⟨kvs', f1, _⟩ := r.ob n _ _ e1 z4
              exact .inr (.inr (.inl ⟨rfl, .inl ⟨kvs', f1⟩⟩))
            | lst _ => simp only [z4] at e; cases e
            | dead => simp only [z4] at e; cases e
    | _ => cases e
abbrev OM := D → List D → Mh → Rs D
structure wmt (X : Cx) (id : String)  (x : V) (xs : List V) (H : Hp) (Q : VK) : Prop where
  run : ∀ (pins : List (Addr × Obj)) (s : Shared) (σ : L2.St) (v : Value) (us : List Value), Inv X pins σ H s → RelV x v → Vals xs us → wpAny (model X.prog X.w) X.A (call (.builtin id) (v :: us)) (EP X pins σ Q) X.xe s
theorem wmt_ok {X : Cx} {id : String} : MtR X id (wmt X id) := fun pins s σ _ _ _ v us _ I r1 r2 h => h.run pins s σ v us I r1 r2
def MtD (T : Tx) (id : String) (g : OM) : Prop := ∀ H m h σ x xs d ds Q, Rep T.X.K T.X.w H m h → RD T H m h x d → RL T H m h xs ds → Post T (RD T) m h H σ (g d ds h) Q → wmt T.X id x xs H Q
def eMeth (b : Bt) (g : OM) (fo : EE) (fl : EL) : EE := fun ρ h => (fo ρ h).bind fun d h1 => match b.is d h1 with
  | true => (fl ρ h1).bind fun ds h2 => g d ds h2
  | false => .no
section
variable {o e : Expr} {es : List Expr} {fo : EE} {fl : EL} {name : Str} {apos cpos : Pos} {id : String} {g : OM} {b : Bt}
theorem je_bm (b : Bt) (pa : PlainAttrs b.nm) (slot : Slot b.nm name id) (hty : typeOf (.builtin id) = pure (.type "method_descriptor")) (hm : MtD T id g) (ho : JE T o fo) (ha : JA T (e :: es) fl)
    (hbase : attributeBase o name T.X.env (eval o T.X.env) = eval o T.X.env := by rfl)
    (hfew : ((backTo cpos (starEach (e :: es) T.X.env)).all (fun x => !x.1) && (backToKw cpos (keywordEach [] T.X.env)).all (fun x => x.1.isSome)
      && decide ((e :: es).length + ([] : List Keyword).length + (if ([] : List Keyword).isEmpty then 0 else 1) < 30)) = true := by rfl)
    (hline : (apos.endLine == cpos.line) = true := by rfl) (hs : starEach (e :: es) T.X.env = (false, eval e T.X.env) :: starEach es T.X.env := by rfl) (hplain : (backTo cpos (starEach es T.X.env)).any (·.1) = false := by rfl) :
    JE T (.Call (.Attribute o name apos) (e :: es) [] cpos) (eMeth b g fo fl) := fun σ H m h ρ Q F p =>
  WE.of (pe_bm pa slot hty wmt_ok we_pe wa_pa hbase hfew hline hs hplain) (ho σ H m h ρ _ F (p.bind fun d h1 v H1 m1 r1 x1 q1 p1 => by
    cases z : b.is d h1 with
    | false => rw [z] at p1; exact p1.elim
    | true =>
      rw [z] at p1
      exact ⟨Bt.ok r1 q1 z, ha σ H1 m1 h1 ρ _ (F.step r1 x1) (Post.bind p1 fun ds h2 vs H2 m2 r2 x2 q2 p2 => hm H2 m2 h2 σ v vs d ds Q r2 (x2.isD r1 q1) q2 p2)⟩))
theorem je_bm0 (b : Bt) (pa : PlainAttrs b.nm) (slot : Slot b.nm name id) (hty : typeOf (.builtin id) = pure (.type "method_descriptor")) (hm : MtD T id g) (ho : JE T o fo)
    (hbase : attributeBase o name T.X.env (eval o T.X.env) = eval o T.X.env := by rfl) (hline : (apos.endLine == cpos.line) = true := by rfl) : JE T (.Call (.Attribute o name apos) [] [] cpos) (eMeth b g fo aNil) := fun σ H m h ρ Q F p =>
  WE.of (pe_bm0 pa slot hty wmt_ok we_pe hbase hline) (ho σ H m h ρ _ F (p.bind fun d h1 v H1 m1 r1 x1 q1 p1 => by
    cases z : b.is d h1 with
    | false => rw [z] at p1; exact p1.elim
    | true =>
      rw [z] at p1
      exact ⟨Bt.ok r1 q1 z, hm H1 m1 h1 σ v [] d [] Q r1 q1 .nil p1⟩))
end
/-- what a live list's method asks: the list, its number -/
def liveL (d : D) (h : Mh) : Option (Nat × List D) := match d with
  | .ref n => match h[n]? with
    | some (.lst ds) => some (n, ds)
    | _ => none
  | _ => none
theorem live_ok {m : List Addr} {h : Mh} {H : Hp} {x : V} {d : D} {n : Nat} {ds : List D} (r : Rep T.X.K T.X.w H m h) (q : RD T H m h x d) (e : liveL d h = some (n, ds)) : ∃ a xs, x = .ref a ∧ m[n]? = some a ∧ h[n]? = some (.lst ds) ∧ H a = some (.lst xs) ∧ RL T H m h xs ds := by
  cases d with
  | ref k =>
    unfold liveL at e
    cases z4 : h[k]? with
    | none => simp only [z4] at e; cases e
    | some o =>
      cases o with
      | lst ds' =>
        simp only [z4] at e
        cases e
        obtain ⟨a, xs, rfl, e1, e2, e3⟩ := lst_at r q z4
        exact ⟨a, xs, rfl, e1, z4, e2, e3⟩
      | dic _ => simp only [z4] at e; cases e
      | dead => simp only [z4] at e; cases e
  | _ => cases e
/-- a live list takes other items -/
theorem Post.putL {m : List Addr} {h : Mh} {H : Hp} {σ : L2.St} {a : Addr} {n : Nat} {Q : VK} {ds ds' : List D} {xs' : List V} {d : D} {v : V} (p : Post T (RD T) m h H σ (.ok d (h.set n (.lst ds'))) Q) (r : Rep T.X.K T.X.w H m h) (em : m[n]? = some a) (eh : h[n]? = some (.lst ds))
    (i : RL T H m h xs' ds') (iv : RD T H m h v d) : Q v (upd H a (.lst xs')) := by
  have hd : Ob.lst ds ≠ Ob.dead := fun z => by cases z
  have x : Ext H m h (upd H a (.lst xs')) m (h.set n (.lst ds')) := Ext.put r em eh hd
  exact p v _ m (r.put em eh hd ⟨xs', upd_same, x.isDs r i⟩) x (x.isD r iv)
def mAppend : OM := fun d ds h => match liveL d h, ds with
  | some (n, ys), [y] => match small (ys.length + 1) with
    | true => .ok .non (h.set n (.lst (ys ++ [y])))
    | false => .no
  | _, _ => .no
theorem small_lt {n : Nat} (h : small (n + 1) = true) : n < sizeLine := by
  have := of_decide_eq_true h
  rw [sizeLine_eq]; omega
theorem md_append : MtD T "list.append" mAppend := fun H m h σ x xs d ds Q r q1 q2 p => .mk fun pins s σ' v us I r1 r2 => by
  unfold mAppend at p
  cases e : liveL d h with
  | none => rw [e] at p; exact p.elim
  | some y =>
    obtain ⟨n, ys⟩ := y
    rw [e] at p
    cases q2 with
    | nil => exact p.elim
    | @cons v1 d1 vs ds q q3 =>
      cases q3 with
      | cons _ _ => exact p.elim
      | nil =>
        cases z : small (ys.length + 1) with
        | false => simp only [z] at p; exact p.elim
        | true =>
          simp only [z] at p
          obtain ⟨a, zs, rfl, e1, e2, e3, e4⟩ := live_ok r q1 e
          exact mt_append pins s σ' H _ _ v us Q I r1 r2 ⟨a, zs, v1, rfl, rfl, e3, by rw [e4.length]; exact small_lt z, Post.putL p r e1 e2 (e4.append (.cons q .nil)) .non⟩
def mPop : OM := fun d ds h => match liveL d h, ds with
  | some (n, ys), [] => match ys[ys.length - 1]? with
    | some y => .ok y (h.set n (.lst ys.dropLast))
    | none => .no
  | some (n, ys), [.int i] => match ixN ys.length i with
    | some j => match ys[j]? with
      | some y => .ok y (h.set n (.lst (ys.eraseIdx j)))
      | none => .no
    | none => .no
  | _, _ => .no
theorem md_pop : MtD T "list.pop" mPop := fun H m h σ x xs d ds Q r q1 q2 p => .mk fun pins s σ' v us I r1 r2 => by
  unfold mPop at p
  cases e : liveL d h with
  | none => rw [e] at p; exact p.elim
  | some y =>
    obtain ⟨n, ys⟩ := y
    rw [e] at p
    obtain ⟨a, zs, rfl, e1, e2, e3, e4⟩ := live_ok r q1 e
    cases q2 with
    | nil =>
      simp only at p
      cases z : ys[ys.length - 1]? with
      | none => rw [z] at p; exact p.elim
      | some y =>
        rw [z] at p
        obtain ⟨y', f1, f2⟩ := e4.get z
        exact mt_pop pins s σ' H _ _ v us Q I r1 r2 ⟨a, zs, y', rfl, rfl, e3, by rw [e4.length]; exact f1, Post.putL p r e1 e2 e4.dropLast f2⟩
    | @cons v1 d1 vs ds q q3 =>
      cases q3 with
      | cons _ _ => cases q <;> exact p.elim
      | nil =>
        cases q with
        | int i =>
          simp only at p
          cases z : ixN ys.length i with
          | none => rw [z] at p; exact p.elim
          | some j =>
            rw [z] at p
            simp only at p
            cases z2 : ys[j]? with
            | none => rw [z2] at p; exact p.elim
            | some y =>
              rw [z2] at p
              obtain ⟨y', f1, f2⟩ := e4.get z2
              obtain ⟨g1, g2, g3, g4⟩ := ixN_seq z
              have hl := (I.lstM e3).1
              have hs : sizeLine = 16777216 := sizeLine_eq
              have hlen := e4.length
              exact mt_popAt pins s σ' H _ _ v us Q I r1 r2 ⟨a, zs, i, j, y', rfl, rfl, e3, by omega, by omega, by rw [hlen]; exact g1, f1, Post.putL p r e1 e2 (e4.erase j) f2⟩
        | _ => exact p.elim
def mExtend : OM := fun d ds h => match liveL d h, ds with
  | some (n, ys), [e] => match lstH e h with
    | some zs => match small (ys.length + zs.length) with
      | true => .ok .non (h.set n (.lst (ys ++ zs)))
      | false => .no
    | none => .no
  | _, _ => .no
theorem md_extend : MtD T "list.extend" mExtend := fun H m h σ x xs d ds Q r q1 q2 p => .mk fun pins s σ' v us I r1 r2 => by
  unfold mExtend at p
  cases e : liveL d h with
  | none => rw [e] at p; exact p.elim
  | some y =>
    obtain ⟨n, ys⟩ := y
    rw [e] at p
    cases q2 with
    | nil => exact p.elim
    | @cons v1 d1 vs ds q q3 =>
      cases q3 with
      | cons _ _ => exact p.elim
      | nil =>
        simp only at p
        cases z1 : lstH d1 h with
        | none => rw [z1] at p; exact p.elim
        | some zs =>
          rw [z1] at p
          simp only at p
          cases z : small (ys.length + zs.length) with
          | false => rw [z] at p; exact p.elim
          | true =>
            rw [z] at p
            obtain ⟨a, ws, rfl, e1, e2, e3, e4⟩ := live_ok r q1 e
            obtain ⟨a2, ws2, rfl, f1, f2⟩ := lstH_ok r q z1
            exact mt_extend pins s σ' H _ _ v us Q I r1 r2 ⟨a, a2, ws, ws2, rfl, rfl, e3, f1, by rw [e4.length, f2.length]; exact small_line z, Post.putL p r e1 e2 (e4.append f2) .non⟩
/-- the codes of a row of texts -/
def strsD : List D → Option (List (List Nat))
  | [] => some []
  | .str s :: r => (strsD r).map (s :: ·)
  | _ => none
theorem strsD_ok {m : List Addr} {h : Mh} {H : Hp} : ∀ {ds : List D} {xs : List V} {ss : List (List Nat)}, RL T H m h xs ds → strsD ds = some ss → xs = (ss.map fun s => (⟨s.toArray⟩ : Str)).map V.str
  | [], _, _, q, e => by cases q; cases e; rfl
  | d :: r, _, _, q, e => by
    cases q with
    | cons q1 q2 =>
      cases q1 with
      | str s =>
        have e' : (strsD r).map (s :: ·) = some _ := e
        cases z : strsD r with
        | none => rw [z] at e'; cases e'
        | some ss =>
          rw [z] at e'
          cases e'
          rw [strsD_ok q2 z]
          rfl
      | _ => cases e
def joinOk (n : Nat) (ss : List (List Nat)) : Bool := small ((ss.map List.length).sum + ss.length * n)
def mJoin : OM := fun d ds h => match d, ds with
  | .str a, [e] => match seqL e h with
    | some ys => match strsD ys with
      | some ss => match joinOk a.length ss with
        | true => .ok (.str (joinL a ss)) h
        | false => .no
      | none => .no
    | none => .no
  | _, _ => .no
theorem join_tl (a : List Nat) (ss : List (List Nat)) : Txt.join ⟨a.toArray⟩ (ss.map fun s => (⟨s.toArray⟩ : Str)) = ⟨(joinL a ss).toArray⟩ := by
  rw [join_eq]
  refine ext_tl ?_
  rw [tl_join, List.map_map]
  have e : (tl ∘ fun s : List Nat => (⟨s.toArray⟩ : Str)) = id := rfl
  rw [e, List.map_id]
theorem md_join : MtD T "str.join" mJoin := fun H m h σ x xs d ds Q r q1 q2 p => .mk fun pins s σ' v us I r1 r2 => by
  unfold mJoin at p
  cases q1 with
  | str a =>
    cases q2 with
    | nil => exact p.elim
    | @cons v1 d1 vs ds q q3 =>
      cases q3 with
      | cons _ _ => exact p.elim
      | nil =>
        simp only at p
        cases z1 : seqL d1 h with
        | none => rw [z1] at p; exact p.elim
        | some ys =>
          rw [z1] at p
          simp only at p
          cases z2 : strsD ys with
          | none => rw [z2] at p; exact p.elim
          | some ss =>
            rw [z2] at p
            simp only at p
            cases z3 : joinOk a.length ss with
            | false => rw [z3] at p; exact p.elim
            | true =>
              rw [z3] at p
              obtain ⟨b, xs, rfl, f1, f2⟩ := seqL_ok r q z1
              have ex := strsD_ok f2 z2
              subst ex
              refine mt_join pins s σ' H _ _ v us Q I r1 r2 ⟨_, b, ss.map fun s => ⟨s.toArray⟩, rfl, rfl, f1, ?_, by rw [join_tl]; exact Post.here p r (.str _)⟩
              have := of_decide_eq_true z3
              rw [List.map_map, len_mk, List.length_map]
              have e : ((fun x : Str => x.length) ∘ fun s : List Nat => (⟨s.toArray⟩ : Str)) = List.length := funext fun s => len_mk s
              rw [e]
              exact this
  | _ => exact p.elim
/-! ### int(x), str(x) -/
def intV : O1 := fun d h => match d with
  | .int i => .ok (.int i) h
  | .bl k => .ok (.int (if k then 1 else 0)) h
  | .str s => match intText? ⟨s.toArray⟩, decide (s.length ≤ 640) with
    | some n, true => .ok (.int n) h
    | _, _ => .no
  | _ => .no
theorem cs_int : CallS T (.type "int") (one1 intV) := fun H m h σ xs ds Q r q p => by
  obtain ⟨x, d, rfl, rfl, q1, p1⟩ := one_ok q p
  cases d with
  | int i => cases q1; exact .mk fun pins s σ' us I rv => call_int1 pins s σ' H _ us Q I rv (.inl ⟨i, rfl, Post.here p1 r (.int _)⟩)
  | bl i => cases q1; exact .mk fun pins s σ' us I rv => call_int1 pins s σ' H _ us Q I rv (.inr ⟨i, rfl, Post.here p1 r (.int _)⟩)
  | str z =>
    have p2 : Post T (RD T) m h H σ (match intText? ⟨z.toArray⟩, decide (z.length ≤ 640) with
      | some n, true => .ok (.int n) h
      | _, _ => .no) Q := p1
    cases e1 : intText? ⟨z.toArray⟩ with
    | none => rw [e1] at p2; exact p2.elim
    | some n =>
      cases e2 : decide (z.length ≤ 640) with
      | false => rw [e1, e2] at p2; exact p2.elim
      | true =>
        rw [e1, e2] at p2
        cases q1
        exact .mk fun pins s σ' us I rv => call_int_str pins s σ' H _ us Q I rv ⟨_, n, rfl, e1, by rw [len_mk]; exact of_decide_eq_true e2, Post.here p2 r (.int _)⟩
  | _ => exact p1.elim
def strV : O1 := fun d h => match d with
  | .int i => match decide (i.natAbs.log2 < 1920) with
    | true => .ok (.str (tl (Str.ofString (toString i)))) h
    | false => .no
  | _ => .no
theorem cs_str : CallS T (.type "str") (one1 strV) := fun H m h σ xs ds Q r q p => by
  obtain ⟨x, d, rfl, rfl, q1, p1⟩ := one_ok q p
  cases d with
  | int i =>
    have p2 : Post T (RD T) m h H σ (match decide (i.natAbs.log2 < 1920) with
      | true => .ok (.str (tl (Str.ofString (toString i)))) h
      | false => .no) Q := p1
    cases e2 : decide (i.natAbs.log2 < 1920) with
    | false => rw [e2] at p2; exact p2.elim
    | true =>
      rw [e2] at p2
      cases q1
      exact .mk fun pins s σ' us I rv => call_str_int pins s σ' H _ us Q I rv ⟨i, rfl, of_decide_eq_true e2, Post.here p2 r (by
        have := IsD.str (K := T.X.K) (w := T.X.w) (H := H) (L := Live m h) (m := m) (tl (Str.ofString (toString i)))
        rw [mk_tl] at this
        exact this)⟩
  | _ => exact p1.elim
end
end DL

namespace DL
open PySem PySem.Spec PyProof.Rows L2 TL
/-! ### a def, by its function -/
/-- as Post, of a call -/
def PostF (K : PySem.W.Frag) (w : World) (mg : Str → Option Value) (m : List Addr) (h : Mh) (H : Hp) (r : Rs D) (Q : VK) (E : XK) : Prop := match r with
  | .ok d h' => ∀ v H' m', Rep K w H' m' h' → Ext H m h H' m' h' → IsD K w H' (Live m' h') m' v d → Q v H'
  | .ex c fs h' => ∀ cls dd H' m', Rep K w H' m' h' → Ext H m h H' m' h' → mg (Str.ofString c) = some cls → XF K w H' m' h' dd fs → E cls (some dd) H'
  | .no => False
theorem Post.f {T : Tx} {m : List Addr} {h : Mh} {H : Hp} {σ : L2.St} {r : Rs D} {Q : VK} (p : Post T (RD T) m h H σ r Q) : PostF T.X.K T.X.w T.X.mg m h H r Q (L2.WE T.W σ) := by
  cases r with
  | ok d h' => exact p
  | ex c fs h' => exact p
  | no => exact p
/-- the promise: it does what F says -/
def spF (K : PySem.W.Frag) (w : World) (mg : Str → Option Value) (n : Nat) (F : OL) : Sp := fun vs H Q E => ∃ (m : List Addr) (h : Mh) (ds : List D), Rep K w H m h ∧ IsDs K w H (Live m h) m vs ds ∧ ds.length = n ∧ PostF K w mg m h H (F ds h) Q E
mutual
/-- it names only the first n -/
def bndD (n : Nat) : D → Bool
  | .ref k => decide (k < n)
  | .tup ds => bndDs n ds
  | .lst ds => bndDs n ds
  | .dic kds => bndKs n kds
  | _ => true
def bndDs (n : Nat) : List D → Bool
  | [] => true
  | d :: ds => bndD n d && bndDs n ds
def bndKs (n : Nat) : List (DK × D) → Bool
  | [] => true
  | (_, d) :: ds => bndD n d && bndKs n ds
end
def bndO (n : Nat) : Ob → Bool
  | .lst ds => bndDs n ds
  | .dic kds => bndKs n kds
  | .dead => true
/-- what the def has made is let go, if nothing names it -/
def gcR (n : Nat) (r : Rs D) : Rs D := match r with
  | .ok d h => match bndD n d && (h.take n).all (bndO n) with
    | true => .ok d (h.take n)
    | false => .ok d h
  | r => r
section
variable {K : PySem.W.Frag} {w : World} {H : Hp} {L L' : Addr → Prop} {m : List Addr} {n : Nat}
mutual
theorem IsD.bnd (hL : ∀ a, L' a → L a) : ∀ (d : D) (v : V), IsD K w H L m v d → bndD n d = true → IsD K w H L' (m.take n) v d
  | .u, _, q, _ => by cases q
  | .non, _, q, _ => by cases q; exact .non
  | .bl b, _, q, _ => by cases q; exact .bl b
  | .int i, _, q, _ => by cases q; exact .int i
  | .str s, _, q, _ => by cases q; exact .str s
  | .tup ds, _, q, b => by
    cases q with
    | tup e r => exact .tup e (IsDs.bnd hL ds _ r b)
  | .lst ds, _, q, b => by
    cases q with
    | lst e r => exact .lst ⟨e.1, fun l => e.2 (hL _ l)⟩ (IsDs.bnd hL ds _ r b)
  | .dic kds, _, q, b => by
    cases q with
    | dic e r =>
      refine .dic ?_ (IsKs.bnd hL kds _ r b)
      rcases e with ⟨e, nl⟩ | e
      · exact .inl ⟨e, fun l => nl (hL _ l)⟩
      · exact .inr e
  | .ref k, _, q, b => by
    cases q with
    | ref e =>
      have hk : k < n := of_decide_eq_true b
      exact .ref (by rw [List.getElem?_take_of_lt hk]; exact e)
  | .scr ns, _, q, _ => by
    cases q with
    | scr e => exact .scr e
theorem IsDs.bnd (hL : ∀ a, L' a → L a) : ∀ (ds : List D) (vs : List V), IsDs K w H L m vs ds → bndDs n ds = true → IsDs K w H L' (m.take n) vs ds
  | [], _, q, _ => by cases q; exact .nil
  | d :: ds, _, q, b => by
    cases q with
    | cons a c =>
      obtain ⟨b1, b2⟩ := Bool.and_eq_true_iff.mp b
      exact .cons (IsD.bnd hL d _ a b1) (IsDs.bnd hL ds _ c b2)
theorem IsKs.bnd (hL : ∀ a, L' a → L a) : ∀ (ds : List (DK × D)) (vs : List (Key × V)), IsKs K w H L m vs ds → bndKs n ds = true → IsKs K w H L' (m.take n) vs ds
  | [], _, q, _ => by cases q; exact .nil
  | (k, d) :: ds, _, q, b => by
    cases q with
    | cons a c =>
      obtain ⟨b1, b2⟩ := Bool.and_eq_true_iff.mp b
      exact .cons (IsD.bnd hL d _ a b1) (IsKs.bnd hL ds _ c b2)
end
end
theorem PostF.gc {K : PySem.W.Frag} {w : World} {mg : Str → Option Value} {m : List Addr} {h : Mh} {H : Hp} {r : Rs D} {Q : VK} {E : XK} (r0 : Rep K w H m h) (p : PostF K w mg m h H (gcR h.length r) Q E) : PostF K w mg m h H r Q E := by
  cases r with
  | ex c fs h' => exact p
  | no => exact p
  | ok d h' =>
    have p' : PostF K w mg m h H (match bndD h.length d && (h'.take h.length).all (bndO h.length) with
      | true => .ok d (h'.take h.length)
      | false => .ok d h') Q E := p
    cases z : bndD h.length d && (h'.take h.length).all (bndO h.length) with
    | false => rw [z] at p'; exact p'
    | true =>
      rw [z] at p'
      obtain ⟨z1, z2⟩ := Bool.and_eq_true_iff.mp z
      intro v H' m' r1 x1 q1
      have hL : ∀ a, Live (m'.take h.length) (h'.take h.length) a → Live m' h' a := fun a l => by
        obtain ⟨k, o, e1, e2, ne⟩ := l
        have hk : k < h.length := by
          cases Nat.lt_or_ge k h.length with
          | inl h => exact h
          | inr g => rw [List.getElem?_eq_none (by rw [List.length_take]; omega)] at e1; cases e1
        rw [List.getElem?_take_of_lt hk] at e1 e2
        exact ⟨k, o, e1, e2, ne⟩
      have em : m'.take h.length = m := by
        refine List.ext_getElem? fun k => ?_
        by_cases hk : k < h.length
        · rw [List.getElem?_take_of_lt hk]
          have hk' : k < m.length := by rw [r0.len]; exact hk
          rw [List.getElem?_eq_getElem hk']
          exact x1.pre k _ (List.getElem?_eq_getElem hk')
        · rw [List.getElem?_eq_none (by rw [List.length_take]; omega), List.getElem?_eq_none (by rw [r0.len]; omega)]
      have rt : Rep K w H' (m'.take h.length) (h'.take h.length) := by
        refine ⟨by rw [List.length_take, List.length_take, r1.len], r1.nd.sublist (List.take_sublist _ _), fun k a o e1 e2 => ?_⟩
        have hk : k < h.length := by
          cases Nat.lt_or_ge k h.length with
          | inl h => exact h
          | inr g => rw [List.getElem?_eq_none (by rw [List.length_take]; omega)] at e1; cases e1
        have hb := List.all_eq_true.mp z2 o (List.mem_of_getElem? e2)
        rw [List.getElem?_take_of_lt hk] at e1 e2
        have q := r1.ob k a o e1 e2
        cases o with
        | lst ds => obtain ⟨xs, f1, f2⟩ := q; exact ⟨xs, f1, IsDs.bnd hL ds xs f2 hb⟩
        | dic kds => obtain ⟨xs, f1, f2⟩ := q; exact ⟨xs, f1, IsKs.bnd hL kds xs f2 hb⟩
        | dead => exact q
      have q2 := IsD.bnd (n := h.length) hL d v q1 z1
      rw [em] at rt q2 hL
      exact p' v H' m rt ⟨fun _ _ e => e, x1.keep, x1.some_, fun a l => x1.fresh a (hL a l)⟩ q2
def endF (s : Ss) : Rs D := match s with
  | .rt d h => .ok d h
  | .nx _ h => .ok .non h
  | .xc c fs _ h => .ex c fs h
  | _ => .no
/-- the function of a def: nl names, the body's meaning -/
def mkF (nl : Nat) (b : SS) : OL := fun ds h => gcR h.length (endF (b (ds ++ List.replicate (nl - ds.length) .u) h))
theorem IsDs.at {K : PySem.W.Frag} {w : World} {H : Hp} {L : Addr → Prop} {m : List Addr} {ds : List D} {vs : List V} (q : IsDs K w H L m vs ds) {i : Nat} {d : D} (e : ds[i]? = some d) : ∃ v, vs[i]? = some v ∧ IsD K w H L m v d := q.get e
/-- THE RULE of a def -/
theorem fn_ok {P : Program} {w : World} {K : PySem.W.Frag} {mg : Str → Option Value} {base : Heap} {x qual : Str} {params : Arguments} {body : List Stmt} {scope : Scope} {dvs : List V} {kws : List (Str × V)} {f : Addr} {fd : FuncData} {N ps : List Str} {k n : Nat} {b : SS} {g : OL}
    (F : FunD K x qual params body scope dvs kws f fd) (S : FnScope N ps scope) (en : ps.length = n) (eg : g = mkF N.length b)
    (hb : ∀ (cdv : Value) (A : Around) (outer : List Env) (s : Shared) (H : Hp) (E : XK), Room k (A.deeper (envOfC qual scope s.heap.objs.size f cdv)) → Tk ⟨cxOf (L2.CX P w) P w K mg base N qual scope f cdv A outer s H E, fun cls d _ H => E cls d H, none⟩ → Pw ⟨cxOf (L2.CX P w) P w K mg base N qual scope f cdv A outer s H E, fun cls d _ H => E cls d H, none⟩ →
      JSs ⟨cxOf (L2.CX P w) P w K mg base N qual scope f cdv A outer s H E, fun cls d _ H => E cls d H, none⟩ body b) :
    FnOk P w K mg base (L2.CX P w) (k + 1) f fd ps (spF K w mg n g) := by
  subst en eg
  refine F.ok S (fun vs H Q E h => ?_) (fun cdv A outer s H vs Q E hr h => ?_)
  · obtain ⟨m, h, ds, _, q, e, _⟩ := h
    rw [q.length, e]
  · obtain ⟨m, h, ds, r, q, e, p⟩ := h
    refine ⟨WSs _ body, wss_pss, ?_⟩
    have p1 := PostF.gc r p
    have hpl : ps.length ≤ N.length := by have := congrArg List.length S.pre; rw [List.length_take] at this; omega
    refine hb cdv A outer s H E hr ⟨takes_of rfl rfl rfl rfl⟩ ⟨passes_of rfl⟩ (L2.start N vs) H m h (ds ++ List.replicate (N.length - ds.length) .u) _ ⟨r, fun i d e1 n => ?_, (fun x z => nomatch z), ?_⟩ ?_
    · by_cases hi : i < ds.length
      · rw [List.getElem?_append_left hi] at e1
        obtain ⟨v, e2, q2⟩ := q.get e1
        refine ⟨v, ?_, q2⟩
        unfold L2.start
        rw [List.getElem?_append_left (by rw [List.length_map, q.length]; exact hi), List.getElem?_map, e2]
        rfl
      · rw [List.getElem?_append_right (by omega), List.getElem?_replicate] at e1
        split at e1
        · cases e1; exact absurd rfl n
        · cases e1
    · unfold L2.start
      rw [List.length_append, List.length_append, List.length_map, List.length_replicate, List.length_replicate, q.length]
      exact Nat.le_refl _
    · revert p1
      generalize b (ds ++ List.replicate (N.length - ds.length) .u) h = rr
      intro p1
      cases rr with
      | nx ρ' h' => exact fun σ' H' m' F' x' => p1 .non H' m' F'.rep x' .non
      | rt d h' => exact fun v H' m' r' x' q' => p1 v H' m' r' x' q'
      | bk ρ' h' => exact p1.elim
      | ct ρ' h' => exact p1.elim
      | xc c fs ρ' h' => exact fun cls dd σ' H' m' F' x' e1 e2 => p1 cls dd H' m' F'.rep x' e1 e2
      | no => exact p1.elim
section
variable {T : Tx} {e : Expr} {es : List Expr} {fl : EL} {g : OL} {x : Str} {p pos : Pos} {f : Addr} {fd : FuncData} {k n : Nat} {ps : List Str}
def eCallF (n : Nat) (g : OL) (fl : EL) : EE := fun ρ h => (fl ρ h).bind fun ds h1 => match decide (ds.length = n) with
  | true => g ds h1
  | false => .no
/-- f(e, ..) -/
theorem je_call (G : FnOk T.X.prog T.X.w T.X.K T.X.mg T.X.base (L2.CX T.X.prog T.X.w) k f fd ps (spF T.X.K T.X.w T.X.mg n g)) (en : ps.length = n) (tk : Tk T) (hr : Room k T.X.A) (hm : T.X.mg x = some (.ref f)) (hk : PySem.W.keepIn T.X.K (.ref f) = true) (hb : Binds T.X.K fd ps [])
    (ha : JA T (e :: es) fl) (hg : Gl T.X x := by rfl) (hdb : (x == ("__debug__" : Str)) = false := by decide) (he : starEach (e :: es) T.X.env = (false, eval e T.X.env) :: starEach es T.X.env := by rfl) (hpl : (backTo pos (starEach es T.X.env)).any (·.1) = false := by rfl) :
    JE T (.Call (.Name x p) (e :: es) [] pos) (eCallF n g fl) := fun σ H m h ρ Q F pp => by
  subst en
  exact WE.of (pe_callSD (E := fun σ => L2.WE T.W σ) G hr hg hm hk hb .nil (fun σ => passAt tk.t σ) wa_pa hdb he hpl) (ha σ H m h ρ _ F (by
    have pp' : Post T (RD T) m h H σ ((fl ρ h).bind fun ds h1 => match decide (ds.length = ps.length) with
      | true => g ds h1
      | false => .no) Q := pp
    refine Post.bind pp' fun ds h1 vs H1 m1 r1 x1 q1 p1 => ?_
    cases z : decide (ds.length = ps.length) with
    | false => rw [z] at p1; exact p1.elim
    | true => rw [z] at p1; exact ⟨m1, h1, ds, r1, by rw [List.append_nil]; exact q1, of_decide_eq_true z, Post.f p1⟩))
end
end DL

namespace DL
open PySem PySem.Spec PyProof.Rows L2 TL
/-! ### stores by index, op= -/
def dput (kds : List (DK × D)) (k : DK) (d : D) : List (DK × D) := match kds.any fun kd => decide (kd.1 = k) with
  | true => kds.map fun kd => match decide (kd.1 = k) with
    | true => (kd.1, d)
    | false => kd
  | false => kds ++ [(k, d)]
def putD (o i d : D) (h : Mh) : Option Mh := match o with
  | .ref n => match h[n]? with
    | some (.lst ds) => match i with
      | .int k => match ixN ds.length k with
        | some j => some (h.set n (.lst (ds.set j d)))
        | none => none
      | _ => none
    | some (.dic kds) => match keyD i with
      | some k => match small (kds.length + 1) with
        | true => some (h.set n (.dic (dput kds k d)))
        | false => none
      | none => none
    | _ => none
  | _ => none
section
variable {K : PySem.W.Frag} {w : World} {H : Hp} {L : Addr → Prop} {m : List Addr}
theorem IsKs.length : ∀ {ds : List (DK × D)} {vs : List (Key × V)}, IsKs K w H L m vs ds → vs.length = ds.length
  | [], _, q => by cases q; rfl
  | _ :: _, _, q => by
    cases q with
    | cons a b => rw [List.length_cons, List.length_cons, b.length]
theorem IsKs.any (k : DK) : ∀ {ds : List (DK × D)} {vs : List (Key × V)}, IsKs K w H L m vs ds → (vs.any fun kv => decide (kv.1 = kk k)) = ds.any fun kd => decide (kd.1 = k)
  | [], _, q => by cases q; rfl
  | (j, d) :: ds, _, q => by
    cases q with
    | cons a b =>
      rw [List.any_cons, List.any_cons, b.any k]
      congr 1
      by_cases e : j = k
      · rw [decide_eq_true (congrArg kk e), decide_eq_true e]
      · rw [decide_eq_false fun z => e (kk_inj z), decide_eq_false e]
theorem IsKs.app : ∀ {ds es : List (DK × D)} {vs us : List (Key × V)}, IsKs K w H L m vs ds → IsKs K w H L m us es → IsKs K w H L m (vs ++ us) (ds ++ es)
  | [], _, _, _, q, p => by cases q; exact p
  | _ :: _, _, _, _, q, p => by
    cases q with
    | cons a b => exact .cons a (b.app p)
theorem IsKs.mapSet {k : DK} {v : V} {d : D} (q0 : IsD K w H L m v d) : ∀ {ds : List (DK × D)} {vs : List (Key × V)}, IsKs K w H L m vs ds → IsKs K w H L m (vs.map fun kv => if kv.1 = kk k then (kv.1, v) else kv) (ds.map fun kd => match decide (kd.1 = k) with
    | true => (kd.1, d)
    | false => kd)
  | [], _, q => by cases q; exact .nil
  | (j, e) :: ds, _, q => by
    cases q with
    | cons a b =>
      rw [List.map_cons, List.map_cons]
      by_cases e : j = k
      · simp only [e, if_true, decide_true]
        exact .cons q0 (by have := b.mapSet (k := k) q0; exact this)
      · simp only [e, decide_false, if_neg fun z => e (kk_inj z)]
        exact .cons a (b.mapSet q0)
theorem IsKs.put {ds : List (DK × D)} {vs : List (Key × V)} {v : V} {d : D} (k : DK) (q : IsKs K w H L m vs ds) (q0 : IsD K w H L m v d) : IsKs K w H L m (putK vs (kk k) v) (dput ds k d) := by
  unfold putK dput
  rw [q.any k]
  cases ds.any fun kd => decide (kd.1 = k) with
  | true => rw [if_pos rfl]; exact q.mapSet q0
  | false => rw [if_neg Bool.false_ne_true]; exact q.app (.cons q0 .nil)
end
section
variable {T : Tx} {e a b c : Expr} {es rest : List Expr} {f fa fb fc fo fi : EE} {gc : EB} {fl : EL} {pos : Pos}
structure wst (X : Cx)  (o i v : V) (H : Hp) (Q : Hp → Prop) : Prop where
  run : ∀ (pins : List (Addr × Obj)) (s : Shared) (σ : L2.St) (ov iv u : Value), Inv X pins σ H s → RelV o ov → RelV i iv → RelV v u → wpAny (model X.prog X.w) X.A (setItem ov iv u) (fun _ s' => ∃ H', Inv X pins σ H' s' ∧ Q H') X.xe s
theorem wst_ok {X : Cx} : PSet X (wst X) := fun pins s σ H o i v ov iv u Q I r1 r2 r3 h => h.run pins s σ ov iv u I r1 r2 r3
theorem putD_ok (hu : T.X.A.units + 64 < cLine) {H : Hp} {m : List Addr} {h h' : Mh} {x y v : V} {dx dy d : D} {Q : Hp → Prop} (r : Rep T.X.K T.X.w H m h) (q1 : RD T H m h x dx) (q2 : RD T H m h y dy) (q3 : RD T H m h v d) (e : putD dx dy d h = some h')
    (k : ∀ H', Rep T.X.K T.X.w H' m h' → Ext H m h H' m h' → Q H') : wst T.X x y v H Q := .mk fun pins s σ ov iv u I r1 r2 r3 => by
  unfold putD at e
  cases dx with
  | ref n =>
    cases q1 with
    | @ref _ a em =>
      simp only at e
      cases z : h[n]? with
      | none => rw [z] at e; cases e
      | some o =>
        rw [z] at e
        have q := r.ob n a o em z
        cases o with
        | dead => cases e
        | lst ds =>
          obtain ⟨xs, e1, e2⟩ := q
          cases dy with
          | int i =>
            cases q2
            simp only at e
            cases z2 : ixN ds.length i with
            | none => rw [z2] at e; cases e
            | some j =>
              rw [z2] at e
              cases e
              have hd : Ob.lst ds ≠ Ob.dead := fun z => by cases z
              have x : Ext H m h (upd H a (.lst (xs.set j v))) m (h.set n (.lst (ds.set j d))) := Ext.put r em z hd
              exact set_list pins s σ H _ _ _ ov iv u Q I r1 r2 r3 ⟨a, xs, i, j, rfl, rfl, e1, by rw [e2.length]; exact z2, k _ (r.put em z hd ⟨_, upd_same, x.isDs r (e2.set j q3)⟩) x⟩
          | _ => cases e
        | dic kds =>
          obtain ⟨kvs, e1, e2⟩ := q
          simp only at e
          cases z2 : keyD dy with
          | none => rw [z2] at e; cases e
          | some kz =>
            rw [z2] at e
            simp only at e
            cases z3 : small (kds.length + 1) with
            | false => rw [z3] at e; cases e
            | true =>
              rw [z3] at e
              cases e
              have hd : Ob.dic kds ≠ Ob.dead := fun z => by cases z
              have x : Ext H m h (upd H a (.dK (putK kvs (kk kz) v))) m (h.set n (.dic (dput kds kz d))) := Ext.put r em z hd
              have hl : kvs.length < sizeLine := by rw [e2.length]; exact small_lt z3
              refine set_dict (by omega) pins s σ H _ _ _ ov iv u Q I r1 r2 r3 ⟨a, _, rfl, ?_, k _ (r.put em z hd ⟨_, upd_same, x.isKs r (e2.put kz q3)⟩) x⟩
              rw [keyD_ok q2 z2]
              exact DPut.k e1 hl
  | _ => cases e
/-- o[i] = .. -/
def gSubD (fo fi : EE) : GG := fun d ρ h => match fo ρ h with
  | .ok o h1 => match fi ρ h1 with
    | .ok i h2 => match putD o i d h2 with
      | some h3 => some (ρ, h3)
      | none => none
    | _ => none
  | _ => none
theorem jg_sub {o i : Expr} (hu : T.X.A.units + 64 < cLine) (ho : JE T o fo) (hi : JE T i fi)
    (ha : ∀ v, assign (.Subscript o i pos) T.X.env v = (do
      let ov ← holding [v] (eval o T.X.env)
      let iv ← holding [v, ov] (eval i T.X.env)
      standAt pos
      holding [v, ov, iv] (setItem ov iv v)
      release [v, ov, iv] []) := by intro _; rfl) : JG T (.Subscript o i pos) (gSubD fo fi) := fun σ H m h ρ v d ρ' h' Q F q e k => by
  refine WG.of (pg_sub we_pe we_pe wst_ok ha) ?_
  unfold gSubD at e
  cases z1 : fo ρ h with
  | no => rw [z1] at e; cases e
  | ex c fs h1 => rw [z1] at e; cases e
  | ok od h1 =>
    rw [z1] at e
    simp only at e
    cases z2 : fi ρ h1 with
    | no => rw [z2] at e; cases e
    | ex c fs h2 => rw [z2] at e; cases e
    | ok idd h2 =>
      rw [z2] at e
      simp only at e
      cases z3 : putD od idd d h2 with
      | none => rw [z3] at e; cases e
      | some h3 =>
        rw [z3] at e
        cases e
        refine ho σ H m h ρ _ F ?_
        rw [z1]
        intro ov H1 m1 r1 x1 q1
        refine hi σ H1 m1 h1 ρ _ (F.step r1 x1) ?_
        rw [z2]
        intro iv H2 m2 r2 x2 q2
        refine putD_ok hu r2 (x2.isD r1 q1) q2 ((x1.trans x2).isD F.rep q) z3 fun H3 r3 x3 => ?_
        exact k σ H3 m2 (((F.step r1 x1).step r2 x2).step r3 x3) ((x1.trans x2).trans x3)
/-! op= -/
structure wip (X : Cx) (op : Operator)  (x y : V) (H : Hp) (Q : VK) : Prop where
  run : ∀ (pins : List (Addr × Obj)) (s : Shared) (σ : L2.St) (v u : Value), Inv X pins σ H s → RelV x v → RelV y u → wpAny (model X.prog X.w) X.A (inplaceOp op v u) (EP X pins σ Q) X.xe s
theorem wip_ok {X : Cx} {op : Operator} : PIp X op (wip X op) := fun pins s σ H x y v u Q I r1 r2 h => h.run pins s σ v u I r1 r2
def IpS (T : Tx) (op : Operator) (g : O2) : Prop := ∀ H m h σ x y dx dy Q, Rep T.X.K T.X.w H m h → RD T H m h x dx → RD T H m h y dy → Post T (RD T) m h H σ (g dx dy h) Q → wip T.X op x y H Q
def oInt (f : Int → Int → Int) : O2 := fun x y h => match x, y with
  | .int i, .int j => .ok (.int (f i j)) h
  | _, _ => .no
theorem is_int {op : Operator} {f : Int → Int → Int} (hp : PIp T.X op (ipI f)) : IpS T op (oInt f) := fun H m h σ x y dx dy Q r q1 q2 p => .mk fun pins s σ' v u I r1 r2 => by
  unfold oInt at p
  cases dx <;> first | exact p.elim | skip
  cases dy <;> first | exact p.elim | skip
  cases q1; cases q2
  exact hp pins s σ' H _ _ v u Q I r1 r2 ⟨_, _, rfl, rfl, p.here r (.int _)⟩
abbrev oAddI : O2 := oInt fun i j => i + j
abbrev oSubI : O2 := oInt fun i j => i - j
theorem is_add : IpS T .Add oAddI := is_int ip_add
theorem is_sub : IpS T .Sub oSubI := is_int ip_sub
/-- name op= e -/
def sAug (i : Nat) (g : O2) (fa : EE) : SS := fun ρ h => match lk ρ i with
  | .u => .no
  | d => sE ((fa ρ h).bind fun y h1 => g d y h1) ρ fun z h2 => .nx (stv ρ i z) h2
theorem js_aug {i : Nat} {x : Str} {op : Operator} {g : O2} {pos' : Pos} (hg : IpS T op g) (ha : JE T e fa) (hN : T.X.N.Nodup) (hx : Loc T.X.env.scope x) (hi : T.X.N[i]? = some x := by rfl)
    (hf : T.X.fn x = true ∨ T.X.env.scope.names.lookup x = some .local := by first | exact .inl rfl | exact .inr rfl | assumption) (hfree : FreeSlot T i := by exact fun _ z => nomatch z) : JS T (.AugAssign (.Name x pos') op e pos) (sAug i g fa) := fun σ H m h ρ Dn F p => by
  have hu : lk ρ i ≠ .u := fun z => by unfold sAug at p; rw [z] at p; exact p.elim
  obtain ⟨v, e1, q⟩ := F.env i _ (lk_some hu) hu
  have p' : PostS T m h H (sE ((fa ρ h).bind fun y h1 => g (lk ρ i) y h1) ρ fun z h2 => .nx (stv ρ i z) h2) Dn := by
    unfold sAug at p
    cases z : lk ρ i <;> rw [z] at p hu <;> first | exact p | exact absurd rfl hu
  refine WS.of (ps_aug hN hi hx we_pe wip_ok hf) ⟨v, e1, ?_⟩
  refine ha σ H m h ρ _ F (PostS.bindE (R := RD T) F p' (Q1 := fun z H2 => Dn.nx (σ.set i (some z)) H2) (fun z h2 vz H2 m2 r2 x2 q2 p2 => ?_) |>.bind fun y h1 vy H1 m1 r1 x1 q1 p1 => ?_)
  · exact p2 _ _ _ ((F.step r2 x2).set q2 hfree) .refl
  · exact hg H1 m1 h1 σ v vy _ y _ r1 (x1.isD F.rep q) q1 p1
end
end DL

namespace DL
open PySem PySem.Spec PyProof.Rows L2 TL
/-! ### o[i] op= e -/
def getD (o i : D) (h : Mh) : Option D := match o with
  | .ref n => match h[n]? with
    | some (.lst ds) => match i with
      | .int k => atI ds k
      | _ => none
    | some (.dic kds) => match keyD i with
      | some k => dlook kds k
      | none => none
    | _ => none
  | _ => none
section
variable {T : Tx} {e a b c : Expr} {es rest : List Expr} {f fa fb fc fo fi : EE} {gc : EB} {fl : EL} {pos : Pos}
structure wgt (X : Cx)  (o i : V) (H : Hp) (Q : VK) : Prop where
  run : ∀ (pins : List (Addr × Obj)) (s : Shared) (σ : L2.St) (ov iv : Value), Inv X pins σ H s → RelV o ov → RelV i iv → wpAny (model X.prog X.w) X.A (getItem ov iv) (EP X pins σ Q) X.xe s
theorem wgt_ok {X : Cx} : PGet X (wgt X) := fun pins s σ H o i ov iv Q I r1 r2 h => h.run pins s σ ov iv I r1 r2
theorem getD_ok (hu : T.X.A.units + 64 < cLine) {H : Hp} {m : List Addr} {h : Mh} {x y : V} {dx dy d : D} {Q : VK} (r : Rep T.X.K T.X.w H m h) (q1 : RD T H m h x dx) (q2 : RD T H m h y dy) (e : getD dx dy h = some d)
    (k : ∀ v, RD T H m h v d → Q v H) : wgt T.X x y H Q := .mk fun pins s σ ov iv I r1 r2 => by
  unfold getD at e
  cases dx with
  | ref n =>
    cases q1 with
    | @ref _ a em =>
      simp only at e
      cases z : h[n]? with
      | none => rw [z] at e; cases e
      | some o =>
        rw [z] at e
        have q := r.ob n a o em z
        cases o with
        | dead => cases e
        | lst ds =>
          obtain ⟨xs, e1, e2⟩ := q
          cases dy with
          | int i =>
            cases q2
            simp only at e
            obtain ⟨zv, f1, f2⟩ := atI_map e2 e
            cases (show ov = Value.ref a from r1)
            obtain ⟨t, rfl⟩ := r2
            obtain ⟨its, rr, pl, hz⟩ := I.list (.of e1)
            obtain ⟨j, h1, h2, h3, h4, h5⟩ := atI_get f1
            obtain ⟨w, ew, rw'⟩ := rr.get h2
            have hl := rr.length
            have hn := line63
            have fin : EP T.X pins σ Q w s := ⟨zv, H, I, rw', k zv f2⟩
            by_cases h0 : 0 ≤ i
            · have hj : i.toNat = j := by
                rw [seqIndex_of h0 h5] at h1
                exact Option.some.inj h1
              exact wpAny_getItem_list pl.isList h0 (by omega) (by rw [hj]; simpa using ew) fin
            · have hj : (i + (its.toArray.size : Int)).toNat = j := by
                rw [seqIndex_neg (by omega) h4] at h1
                rw [List.size_toArray, ← hl]
                exact Option.some.inj h1
              exact wpAny_getItem_list_neg pl.isList (by omega) (by rw [List.size_toArray]; omega) (by omega) (by rw [hj]; simpa using ew) fin
          | _ => cases e
        | dic kds =>
          obtain ⟨kvs, e1, e2⟩ := q
          simp only at e
          cases z2 : keyD dy with
          | none => rw [z2] at e; cases e
          | some kz =>
            rw [z2] at e
            simp only at e
            obtain ⟨v0, g1, g2⟩ := (dlook_ok kz e2).1 d e
            cases (show ov = Value.ref a from r1)
            exact d_getItem (v := v0) (by omega) I (.inl ⟨_, kk kz, .inl e1, keyD_ok q2 z2, g1.symm⟩) r2 fun w' s' I' rw' => ⟨v0, H, I', rw', k v0 g2⟩
  | _ => cases e
/-- o[i] op= e -/
def sAugS (fo fi : EE) (g : O2) (fa : EE) : SS := fun ρ h => sE (fo ρ h) ρ fun o h1 => sE (fi ρ h1) ρ fun i h2 => match getD o i h2 with
  | none => .no
  | some d => sE ((fa ρ h2).bind fun y h3 => g d y h3) ρ fun z h4 => match putD o i z h4 with
    | none => .no
    | some h5 => .nx ρ h5
theorem js_augS {o i : Expr} {op : Operator} {g : O2} {tpos : Pos} (hu : T.X.A.units + 64 < cLine) (hg : IpS T op g) (ho : JE T o fo) (hi : JE T i fi) (ha : JE T e fa)
    (hst : ∀ ov iv new, augStore i ov iv new = (do holding [new, ov, iv] (setItem ov iv new); release [new, ov, iv] []; pure .next) := by intros; rfl) : JS T (.AugAssign (.Subscript o i tpos) op e pos) (sAugS fo fi g fa) := fun σ H m h ρ Dn F p => by
  refine WS.of (ps_augS we_pe we_pe wgt_ok we_pe wip_ok wst_ok hst) ?_
  refine ho σ H m h ρ _ F (PostS.bindE F p fun od h1 vo H1 m1 r1 x1 q1 p1 => ?_)
  refine hi σ H1 m1 h1 ρ _ (F.step r1 x1) (PostS.bindE (F.step r1 x1) p1 fun idd h2 vi H2 m2 r2 x2 q2 p2 => ?_)
  have F2 := (F.step r1 x1).step r2 x2
  cases z : getD od idd h2 with
  | none => rw [z] at p2; exact p2.elim
  | some d =>
    rw [z] at p2
    refine getD_ok hu r2 (x2.isD r1 q1) q2 z fun v q => ?_
    have pp : Post T (RD T) m2 h2 H2 σ ((fa ρ h2).bind fun y h3 => g d y h3) (fun z H5 => wst T.X vo vi z H5 fun H6 => Dn.nx σ H6) := PostS.bindE F2 p2 fun zz h4 vz H4 m4 r4 x4 q4 p4 => by
      cases z3 : putD od idd zz h4 with
      | none => rw [z3] at p4; exact p4.elim
      | some h5 =>
        rw [z3] at p4
        exact putD_ok hu r4 (x4.isD r2 (x2.isD r1 q1)) (x4.isD r2 q2) q4 z3 fun H6 r6 x6 => p4 σ H6 m4 ((F2.step r4 x4).step r6 x6) x6
    exact ha σ H2 m2 h2 ρ _ F2 (Post.bind pp fun y h3 vy H3 m3 r3 x3 q3 p3 => hg H3 m3 h3 σ v vy _ y _ r3 (x3.isD r2 q) q3 p3)
end
end DL

namespace DL
open PySem PySem.Spec PyProof.Rows L2 TL
/-! ### isinstance, built-in types -/
inductive Ty where
  | non | bl | int | str | tup | lst | dic
deriving DecidableEq
def Ty.nm : Ty → String
  | .non => "NoneType" | .bl => "bool" | .int => "int" | .str => "str" | .tup => "tuple" | .lst => "list" | .dic => "dict"
def Ty.is (a b : Ty) : Bool := match a, b with
  | .bl, .int => true
  | a, b => decide (a = b)
theorem ty_kit (a b : Ty) (h : b ≠ .non) : kitB a.nm b.nm = some (a.is b) := by
  cases a <;> cases b <;> first | exact absurd rfl h | decide +kernel
def tyD (d : D) (h : Mh) : Option Ty := match d with
  | .u => none
  | .non => some .non
  | .bl _ => some .bl
  | .int _ => some .int
  | .str _ => some .str
  | .tup _ => some .tup
  | .lst _ => some .lst
  | .scr _ => some .lst
  | .dic _ => some .dic
  | .ref n => match h[n]? with
    | some (.lst _) => some .lst
    | some (.dic _) => some .dic
    | _ => none
section
variable {T : Tx} {a : Expr} {fa : EE} {pos : Pos}
theorem tyD_ok {H : Hp} {m : List Addr} {h : Mh} {x : V} {d : D} {t : Ty} (r : Rep T.X.K T.X.w H m h) (q : RD T H m h x d) (e : tyD d h = some t) : TyX T.X.K H x (.type t.nm) := by
  cases q with
  | non => cases e; exact .base .non
  | bl b => cases e; exact .base (.bl b)
  | int i => cases e; exact .base (.int i)
  | str s => cases e; exact .base (.str _)
  | tup e1 q =>
    cases e
    rcases e1 with (e1 | ⟨o, e1⟩) | ⟨o, its, n, e1, e2, _⟩
    · exact .base (.tup e1)
    · exact .fTuple e1
    · exact .kTuple e1 e2
  | lst e1 q => cases e; exact .base (.lst e1.1)
  | dic e1 q =>
    cases e
    rcases e1 with ⟨e1, _⟩ | ⟨es, n, kd, _⟩
    · exact .base (.dK e1)
    · exact .kDict kd.at_ rfl
  | scr e1 =>
    cases e
    rcases e1 with ⟨o, e1⟩ | ⟨o, its, n, e1, e2, _⟩
    · exact .base (.frz e1)
    · exact .kList e1 e2
  | @ref n a0 e1 =>
    unfold tyD at e
    cases z : h[n]? with
    | none => simp only [z] at e; cases e
    | some o =>
      have q := r.ob n a0 o e1 z
      cases o with
      | dead => simp only [z] at e; cases e
      | lst ds => simp only [z] at e; cases e; obtain ⟨xs, f, _⟩ := q; exact .base (.lst f)
      | dic ds => simp only [z] at e; cases e; obtain ⟨xs, f, _⟩ := q; exact .base (.dK f)
def isiAny (t : Ty) : List Ty → Bool
  | [] => false
  | c :: cs => t.is c || isiAny t cs
/-- isinstance(a, one of the types cs) -/
def eIsi (cs : List Ty) (fa : EE) : EE := fun ρ h => (fa ρ h).bind fun d h1 => match tyD d h1 with
  | some t => .ok (.bl (isiAny t cs)) h1
  | none => .no
def TyName (T : Tx) (e : Expr) (c : Ty) : Prop := PE T.X e (tC (.ty c.nm))
theorem ty_name (c : Ty) {x : Str} (hm : T.X.mg x = none) (hv : bootBuiltins x = some (.type c.nm)) (hg : Gl T.X x := by rfl) (hn : x ≠ "__name__" := by decide) (hd : (x == ("__debug__" : Str)) = false := by decide) : TyName T (.Name x pos) c := pe_bltn hg hm hv rfl hn hd
theorem je_isi1 {x : Str} {p : Pos} {e : Expr} {c : Ty} (hc : c ≠ .non) (ht : TyName T e c) (hm : T.X.mg x = none) (hv : bootBuiltins x = some (.builtin "isinstance")) (ha : JE T a fa) (hg : Gl T.X x := by rfl) (hn : x ≠ "__name__" := by decide) (hdb : (x == ("__debug__" : Str)) = false := by decide)
    (he : starEach [a, e] T.X.env = (false, eval a T.X.env) :: starEach [e] T.X.env := by rfl) (he2 : starEach [e] T.X.env = [(false, eval e T.X.env)] := by rfl) (hpl : (backTo pos (starEach [e] T.X.env)).any (·.1) = false := by rfl) :
    JE T (.Call (.Name x p) [a, e] [] pos) (eIsi [c] fa) := fun σ H m h ρ Q F pp =>
  WE.of (pe_callB call_isi hg hm hv (pa_cons we_pe (pa_cons ht pa_nil he2) he) hn hdb he hpl) (ha σ H m h ρ _ F (by
    unfold eIsi at pp
    refine pp.bind fun d h1 v H1 m1 r1 x1 q1 p1 => ?_
    cases z : tyD d h1 with
    | none => rw [z] at p1; exact p1.elim
    | some t =>
      rw [z] at p1
      exact ⟨_, _, _, _, t.is c, rfl, .ty _, tyD_ok r1 q1 z, kit_ty (ty_kit t c hc), Post.here p1 r1 (by
        have e : isiAny t [c] = t.is c := Bool.or_false _
        rw [e]; exact .bl _)⟩))
theorem isiAny_ok {K : PySem.W.Frag} (t : Ty) : ∀ cs : List Ty, (∀ c ∈ cs, c ≠ .non) → PySem.W.kitAny K (.type t.nm) (cs.map fun c => .type c.nm) = some (isiAny t cs)
  | [], _ => rfl
  | c :: cs, hc => by
    refine kitAny_cons (kit_ty (ty_kit t c (hc c List.mem_cons_self))) (fun e => ?_) (fun e => ?_)
    · rw [isiAny_ok t cs fun c h => hc c (List.mem_cons_of_mem _ h)]
      unfold isiAny
      rw [e, Bool.false_or]
      cases cs <;> rfl
    · unfold isiAny; rw [e, Bool.true_or]
def TyNames (T : Tx) (es : List Expr) (cs : List Ty) : Prop := PA T.X es (fun σ H Q => Q (cs.map fun c => .ty c.nm) H)
theorem tn_nil : TyNames T [] [] := pa_nil
theorem tn_cons {e : Expr} {es : List Expr} {c : Ty} {cs : List Ty} (h1 : TyName T e c) (h2 : TyNames T es cs) (hs : starEach (e :: es) T.X.env = (false, eval e T.X.env) :: starEach es T.X.env := by rfl) : TyNames T (e :: es) (c :: cs) := pa_cons h1 h2 hs
theorem je_isiT {x : Str} {p p2 : Pos} {k2} {es : List Expr} {cs : List Ty} (hc : ∀ c ∈ cs, c ≠ .non) (hl : cs.length ≤ 100) (ht : TyNames T es cs) (hm : T.X.mg x = none) (hv : bootBuiltins x = some (.builtin "isinstance")) (ha : JE T a fa) (hg : Gl T.X x := by rfl) (hn : x ≠ "__name__" := by decide) (hdb : (x == ("__debug__" : Str)) = false := by decide)
    (he : starEach [a, .Tuple es k2 p2] T.X.env = (false, eval a T.X.env) :: starEach [.Tuple es k2 p2] T.X.env := by rfl) (he2 : starEach [.Tuple es k2 p2] T.X.env = [(false, eval (.Tuple es k2 p2) T.X.env)] := by rfl) (hpl : (backTo pos (starEach [.Tuple es k2 p2] T.X.env)).any (·.1) = false := by rfl) :
    JE T (.Call (.Name x p) [a, .Tuple es k2 p2] [] pos) (eIsi cs fa) := fun σ H m h ρ Q F pp =>
  WE.of (pe_callB call_isiT hg hm hv (pa_cons we_pe (pa_cons (pe_tup ht) pa_nil he2) he) hn hdb he hpl) (ha σ H m h ρ _ F (by
    unfold eIsi at pp
    refine pp.bind fun d h1 v H1 m1 r1 x1 q1 p1 => ?_
    cases z : tyD d h1 with
    | none => rw [z] at p1; exact p1.elim
    | some t =>
      rw [z] at p1
      have hl' : (cs.map fun c => V.ty c.nm).length ≤ sizeLine := by rw [List.length_map, sizeLine_eq]; omega
      refine ⟨hl', fun tp htp => ?_⟩
      have q2 := (Ext.new (o := .tup (cs.map fun c => V.ty c.nm)) r1 htp).isD r1 q1
      have pr : ∀ cs : List Ty, Paired ClsV (cs.map fun c => V.ty c.nm) (cs.map fun c => Value.type c.nm) := fun cs => by
        induction cs with
        | nil => exact .nil
        | cons c cs ih => exact .cons (.ty _) ih
      exact ⟨_, tp, _, _, _, isiAny t cs, rfl, upd_same, pr cs, tyD_ok (r1.new htp) q2 z, isiAny_ok t cs hc, p1 _ _ m1 (r1.new htp) (Ext.new r1 htp) (.bl _)⟩))
end
end DL

namespace DL
open PySem PySem.Spec PyProof.Rows L2 TL
/-! ### list comprehensions, one for -/
def Tx.blk (T : Tx) (s : Shared) (H : Hp) (scope : Scope) (ce : Env) (fp : List Addr) : Tx := ⟨T.X.blk s H scope ce fp, fun _ _ _ _ => False, none⟩
def wpD (ρ : List D) : List Nat → List D
  | [] => ρ
  | v :: vs => stv (wpD ρ vs) v .u
def lcL (n : Nat) (g : GG) (tt : EB) (te : EE) (ρ : List D) : List D → Mh → Rs D
  | [], h => .ok (.ref n) h
  | d :: ds, h => match g d ρ h with
    | none => .no
    | some (ρ2, h2) => match tt ρ2 h2 with
      | .ok false h3 => lcL n g tt te ρ ds h3
      | .ok true h3 => match te ρ2 h3 with
        | .ok y h4 => match h4[n]? with
          | some (.lst acc) => match small (acc.length + 1) with
            | true => lcL n g tt te ρ ds (h4.set n (.lst (acc ++ [y])))
            | false => .no
          | _ => .no
        | _ => .no
      | _ => .no
/-- [te for g in fi if tt], to be changed later -/
def eLcM (own : List Nat) (fi : EL) (g : GG) (tt : EB) (te : EE) : EE := fun ρ h => (fi ρ h).bind fun ds h1 => lcL h1.length g tt te (wpD ρ own) ds (h1 ++ [.lst []])
/-- never changed later -/
def eLc (own : List Nat) (fi : EL) (g : GG) (tt : EB) (te : EE) : EE := fun ρ h => gcR h.length ((eLcM own fi g tt te ρ h).bind frzD)
def tYesD : EB := fun _ h => .ok true h
section
variable {T : Tx} {elt tg iter : Expr} {ifs : List Expr} {pos : Pos} {e a : Expr} {fi : EL} {g : GG} {te : EE} {tt : EB}
theorem Fits.wipe {m : List Addr} {h : Mh} {H : Hp} {σ : L2.St} {ρ : List D} (F : Fits T m ρ h σ H) : ∀ own : List Nat, Fits ⟨T.X, T.W, none⟩ m (wpD ρ own) h (L2.wipe σ own) H
  | [] => ⟨F.rep, F.env, (fun _ z => nomatch z), F.len⟩
  | v :: vs => by
    have F' := F.wipe vs
    refine ⟨F.rep, fun i d e n => ?_, (fun _ z => nomatch z), ?_⟩
    · unfold wpD at e
      rw [stv_at] at e
      split at e
      · cases e; exact absurd rfl n
      · rename_i hne
        obtain ⟨v0, e1, q⟩ := F'.env i d e n
        refine ⟨v0, ?_, q⟩
        have hlt : i < (wpD ρ vs).length := (List.getElem?_eq_some_iff.mp e).1
        unfold L2.wipe
        rw [List.getElem?_set_ne (fun z => hne ⟨z, z ▸ hlt⟩)]
        exact e1
    · unfold wpD L2.wipe
      rw [stv_len, List.length_set]
      exact F'.len
def JGo (T : Tx) (own : List Nat) (tg : Expr) (g : GG) : Prop := ∀ σ H m h ρ v d ρ' h' Q, Fits T m ρ h σ H → RD T H m h v d → g d ρ h = some (ρ', h') → (∀ σ' H' m', Fits T m' ρ' h' σ' H' → Ext H m h H' m' h' → L2.wipe σ' own = L2.wipe σ own → Q σ' H') → WG T.X tg v σ H Q
def JGso (T : Tx) (own : List Nat) (ts : List Expr) (g : GGs) : Prop := ∀ σ H m h ρ vs ds ρ' h' Q, Fits T m ρ h σ H → RL T H m h vs ds → g ds ρ h = some (ρ', h') → (∀ σ' H' m', Fits T m' ρ' h' σ' H' → Ext H m h H' m' h' → L2.wipe σ' own = L2.wipe σ own → Q σ' H') → WGs T.X ts vs σ H Q
theorem wipe_set {σ : L2.St} {i : Nat} {v : Option V} : ∀ {own : List Nat}, i ∈ own → L2.wipe (σ.set i v) own = L2.wipe σ own
  | [], h => nomatch h
  | j :: js, h => by
    unfold L2.wipe
    by_cases hj : i ∈ js
    · rw [wipe_set hj]
    · have e : i = j := by cases h with
        | head => rfl
        | tail _ h => exact absurd h hj
      subst e
      have w2 : ∀ js : List Nat, i ∉ js → L2.wipe (σ.set i v) js = (L2.wipe σ js).set i v := fun js => by
        induction js with
        | nil => intro _; rfl
        | cons k ks ih =>
          intro hn
          unfold L2.wipe
          rw [ih fun z => hn (List.mem_cons_of_mem _ z), List.set_comm _ _ (fun z => hn (by rw [z]; exact List.mem_cons_self))]
      rw [w2 js hj, List.set_set]
theorem wipe_wipe {σ : L2.St} {own : List Nat} : ∀ js : List Nat, (∀ j ∈ js, j ∈ own) → L2.wipe (L2.wipe σ js) own = L2.wipe σ own
  | [], _ => rfl
  | j :: js, h => by
    have e : L2.wipe σ (j :: js) = (L2.wipe σ js).set j none := rfl
    rw [e, wipe_set (h j List.mem_cons_self)]
    exact wipe_wipe js fun k z => h k (List.mem_cons_of_mem _ z)
theorem jgo_name {own : List Nat} {i : Nat} {x : Str} (hN : T.X.N.Nodup) (hx : Loc T.X.env.scope x) (ho : i ∈ own) (hi : T.X.N[i]? = some x := by rfl) (hf : T.X.fn x = true ∨ T.X.env.scope.names.lookup x = some .local := by first | exact .inl rfl | exact .inr rfl | assumption) (hfree : FreeSlot T i := by exact fun _ z => nomatch z) : JGo T own (.Name x pos) (gN i) :=
  fun σ H m h ρ v d ρ' h' Q F q e k => by
    cases e
    exact WG.of (pg_name hN hi hx hf) (k _ H m (F.set q hfree) .refl (wipe_set ho))
theorem jgso_nil {own : List Nat} : JGso T own [] gsNil := fun σ H m h ρ vs ds ρ' h' Q F q e k => by
  cases ds with
  | nil => cases e; cases q; exact WGs.of pgs_nil ⟨rfl, k σ H m F .refl rfl⟩
  | cons d r => cases e
theorem jgso_cons {own : List Nat} {ts : List Expr} {g : GG} {gs : GGs} (h1 : JGo T own e g) (h2 : JGso T own ts gs) (hs : (assignEach (e :: ts) T.X.env).map (·.2) = assign e T.X.env :: (assignEach ts T.X.env).map (·.2) := by rfl) : JGso T own (e :: ts) (gsCons g gs) :=
  fun σ H m h ρ vs ds ρ' h' Q F q ee k => by
    cases ds with
    | nil => cases ee
    | cons d r =>
      cases q with
      | @cons v _ vs _ q1 q2 =>
        unfold gsCons at ee
        cases z : g d ρ h with
        | none => simp only [z] at ee; cases ee
        | some y =>
          obtain ⟨ρ1, h1'⟩ := y
          simp only [z] at ee
          exact WGs.of (pgs_cons wg_pg wgs_pgs hs) ⟨v, vs, rfl, h1 σ H m h ρ v d ρ1 h1' _ F q1 z fun σ1 H1 m1 F1 x1 w1 => h2 σ1 H1 m1 h1' ρ1 vs r ρ' h' Q F1 (x1.isDs F.rep q2) ee fun σ2 H2 m2 F2 x2 w2 => k σ2 H2 m2 F2 (x1.trans x2) (w2.trans w1)⟩
theorem jgo_tup {own : List Nat} {es : List Expr} {k : Nat} {gs : GGs} {n : Nat} (hc : T.X.calm = true) (hg : JGso T own es gs) (hn : (assignEach es T.X.env).length = n := by rfl) (hst : (assignEach es T.X.env).findIdx? (·.1) = none := by rfl) : JGo T own (.Tuple es k pos) (gTupD n gs) :=
  fun σ H m h ρ v d ρ' h' Q F q e kk => by
    cases q with
    | @tup a xs ds e1 q1 =>
      unfold gTupD at e
      cases z : decide (ds.length = n) with
      | false => simp only [z] at e; cases e
      | true =>
        simp only [z] at e
        exact WG.of (pg_tup hc wgs_pgs hn hst) ⟨a, xs, rfl, e1, by rw [q1.length]; exact of_decide_eq_true z, hg σ H m h ρ xs ds ρ' h' Q F q1 e kk⟩
    | _ => cases e
/-- the tests -/
structure WTs (X : Cx) (ifs : List Expr) (σ : L2.St) (H : Hp) (Q : Bool → Hp → Prop) : Prop where
  run : ∀ (pins : List (Addr × Obj)) (s : Shared), Inv X pins σ H s →
    wpAny (model X.prog X.w) X.A (forIn ifs true fun c r => if r = true then do let ok ← isTrue c X.env (eval c X.env); pure (ForInStep.yield ok) else pure (ForInStep.yield r)) (TP X pins σ Q) X.xe s
theorem wts_pts {X : Cx} {ifs : List Expr} : PTs X ifs (WTs X ifs) := ⟨fun pins s _ _ _ I h => h.run pins s I⟩
def JTs (T : Tx) (ifs : List Expr) (f : EB) : Prop := ∀ σ H m h ρ Q, Fits T m ρ h σ H → Post T (RB T) m h H σ (f ρ h) Q → WTs T.X ifs σ H Q
theorem jts_nil : JTs T [] tYesD := fun σ H m h ρ Q F p => .mk fun pins s I => pts_nil.run pins s σ H Q I (p.here F.rep rfl)
theorem jts_one {f : EB} (ha : JT T a f) : JTs T [a] f := fun σ H m h ρ Q F p => .mk fun pins s I => (pts_one wt_pt).run pins s σ H Q I (ha σ H m h ρ Q F p)
/-- IN THE BLOCK -/
def BlkE (T : Tx) (scope : Scope) (P : Tx → Prop) : Prop := ∀ (s : Shared) (H : Hp) (C : Addr) (cl : List (Str × Addr)) (fp : List Addr), P (T.blk s H scope (compEnvC scope cl C T.X.env) fp)
def gU (X : Cx) (scope : Scope) (tg : Expr) : TG := fun v σ H Q => ∀ (s : Shared) (H0 : Hp) (C : Addr) (cl : List (Str × Addr)) (fp : List Addr), WG (X.blk s H0 scope (compEnvC scope cl C X.env) fp) tg v σ H Q
def tU (X : Cx) (scope : Scope) (ifs : List Expr) : TT := fun σ H Q => ∀ (s : Shared) (H0 : Hp) (C : Addr) (cl : List (Str × Addr)) (fp : List Addr), WTs (X.blk s H0 scope (compEnvC scope cl C X.env) fp) ifs σ H Q
def eU (X : Cx) (scope : Scope) (e : Expr) : TE := fun σ H Q => ∀ (s : Shared) (H0 : Hp) (C : Addr) (cl : List (Str × Addr)) (fp : List Addr), WE (X.blk s H0 scope (compEnvC scope cl C X.env) fp) e σ H Q
def LcW (T : Tx) (H1 : Hp) (m1 : List Addr) (h1 : Mh) (D0 : Addr) (σ : L2.St) (Q : VK) (f : Mh → Rs D) (H : Hp) : Prop := ∃ m h, Rep T.X.K T.X.w H m h ∧ Ext H1 m1 h1 H m h ∧ m[h1.length]? = some D0 ∧ Post T (RD T) m h H σ (f h) Q
theorem lc_all {scope : Scope} {own : List Nat} {σ : L2.St} {H : Hp} {m : List Addr} {h : Mh} {ρ : List D} {Q : VK}
    (hi : JI T tg iter fi) (hg : BlkE T scope fun B => JGo B own tg g) (ht : BlkE T scope fun B => JTs B ifs tt) (he : BlkE T scope fun B => JE B elt te)
    (F : Fits T m ρ h σ H) (p : Post T (RD T) m h H σ (eLcM own fi g tt te ρ h) Q) : tLc (WI T.X tg iter) (gU T.X scope tg) (tU T.X scope ifs) (eU T.X scope elt) own σ H Q := by
  refine hi σ H m h ρ _ F (Post.bind p fun ds h1 J H1 m1 r1 x1 q1 p1 => fun D0 hD => ?_)
  have F1 := F.step r1 x1
  have el : m1.length = h1.length := r1.len
  refine ⟨fun i k H => k = ds.length - i ∧ i ≤ ds.length ∧ LcW T H1 m1 h1 D0 σ Q (lcL h1.length g tt te (wpD ρ own) (ds.drop i)) H, ⟨ds.length, by simp, Nat.zero_le _, m1 ++ [D0], h1 ++ [.lst []], Rep.alloc (ob := .lst []) r1 hD ⟨[], upd_same, .nil⟩, Ext.alloc r1 hD, by rw [← el]; simp, Post.step (Ext.alloc (ob := .lst []) r1 hD) p1⟩, ?_⟩
  rintro i k H2 ⟨rfl, hi, m2, h2, r2, x2, e2, p2⟩
  by_cases hlt : i < ds.length
  · obtain ⟨go, yl⟩ := q1.go m2 h2 H2 i ds[i] r2 x2 (List.getElem?_eq_getElem hlt)
    refine .inr ⟨go, LcW T H1 m1 h1 D0 σ Q (lcL h1.length g tt te (wpD ρ own) (ds.drop (i + 1))), fun H' w => ⟨ds.length - (i + 1), by omega, rfl, hlt, w⟩, fun x H3 y => ?_⟩
    obtain ⟨r3, x3, q3⟩ := yl x H3 y
    have p3 := Post.step x3 p2
    rw [List.drop_eq_getElem_cons hlt] at p3
    unfold lcL at p3
    cases z : g ds[i] (wpD ρ own) h2 with
    | none => simp only [z] at p3; exact p3.elim
    | some y3 =>
      obtain ⟨ρ4, h4⟩ := y3
      simp only [z] at p3
      intro s0 H0 C cl fp
      have Fb := (F1.step r3 (x2.trans x3)).wipe own
      refine hg s0 H0 C cl fp (L2.wipe σ own) H3 m2 h2 (wpD ρ own) x ds[i] ρ4 h4 _ ⟨Fb.rep, Fb.env, Fb.exc, Fb.len⟩ q3 z fun σ5 H5 m5 F5 x5 w5 => ⟨w5.trans (wipe_wipe own fun _ z => z), ?_⟩
      have p5 := Post.step x5 p3
      intro s1 H01 C1 cl1 fp1
      refine ht s1 H01 C1 cl1 fp1 σ5 H5 m5 h4 ρ4 _ ⟨F5.rep, F5.env, F5.exc, F5.len⟩ ?_
      cases z1 : tt ρ4 h4 with
      | no => rw [z1] at p5; exact p5.elim
      | ex c fs h6 => rw [z1] at p5; exact p5.elim
      | ok b h6 =>
        rw [z1] at p5
        intro v H6 m6 r6 x6 e6
        cases e6
        have F6 := F5.step r6 x6
        have p6 := Post.step x6 p5
        have x06 := ((x2.trans x3).trans x5).trans x6
        have em6 : m6[h1.length]? = some D0 := (x5.trans x6).pre _ _ e2
        cases b with
        | false =>
          rw [if_neg Bool.false_ne_true]
          exact ⟨m6, h6, r6, x06, em6, p6⟩
        | true =>
          rw [if_pos rfl]
          intro s2 H02 C2 cl2 fp2
          refine he s2 H02 C2 cl2 fp2 σ5 H6 m6 h6 ρ4 _ ⟨F6.rep, F6.env, F6.exc, F6.len⟩ ?_
          simp only at p6
          cases z2 : te ρ4 h6 with
          | no => rw [z2] at p6; exact p6.elim
          | ex c fs h7 => rw [z2] at p6; exact p6.elim
          | ok yd h7 =>
            rw [z2] at p6
            intro v7 H7 m7 r7 x7 q7
            have em7 : m7[h1.length]? = some D0 := x7.pre _ _ em6
            have p7 := Post.step x7 p6
            simp only at p7
            cases z3 : h7[h1.length]? with
            | none => rw [z3] at p7; exact p7.elim
            | some ob =>
              rw [z3] at p7
              cases ob with
              | dead => exact p7.elim
              | dic _ => exact p7.elim
              | lst acc =>
                simp only at p7
                cases z4 : small (acc.length + 1) with
                | false => rw [z4] at p7; exact p7.elim
                | true =>
                  rw [z4] at p7
                  obtain ⟨xs, f1, f2⟩ := r7.ob _ _ _ em7 z3
                  have hd : Ob.lst acc ≠ Ob.dead := fun z => by cases z
                  have xp : Ext H7 m7 h7 (upd H7 D0 (.lst (xs ++ [v7]))) m7 (h7.set h1.length (.lst (acc ++ [yd]))) := Ext.put r7 em7 z3 hd
                  exact ⟨xs, f1, by rw [f2.length]; exact small_lt z4, m7, _, Rep.put (ob := .lst (acc ++ [yd])) r7 em7 z3 hd ⟨_, upd_same, xp.isDs r7 (f2.append (.cons q7 .nil))⟩, (x06.trans x7).trans xp, em7, Post.step xp p7⟩
  · have e : i = ds.length := by omega
    subst e
    rw [List.drop_length] at p2
    exact .inl ⟨q1.stop m2 h2 H2 _ r2 x2 (Nat.le_refl _), p2 (.ref D0) H2 m2 r2 .refl (.ref e2)⟩
theorem je_lcM {scope : Scope} {own : List (Str × Nat)} (hc : T.X.calm = true) (hN : T.X.N.Nodup) (ok : BlkOk T.X.N T.X.env.scope scope own) (hi : JI T tg iter fi)
    (hg : BlkE T scope fun B => JGo B (own.map (·.2)) tg g) (ht : BlkE T scope fun B => JTs B ifs tt) (he : BlkE T scope fun B => JE B elt te) (hs : ∀ x, foldedSetIterable iter T.X.env x = pure x := by intro _; rfl) :
    JE T (.ListComp elt [⟨tg, iter, ifs, 0⟩] scope pos) (eLcM (own.map (·.2)) fi g tt te) := fun σ H m h ρ Q F p =>
  WE.of (pe_lc (g := gU T.X scope tg) (tt := tU T.X scope ifs) (te := eU T.X scope elt) hc hN wi_pi ok (fun s H C cl fp => ⟨fun pins s1 σ1 H1 v u Q1 I r q => (q s H C cl fp).run pins s1 u I r⟩) (fun s H C cl fp => ⟨fun pins s1 σ1 H1 Q1 I q => (q s H C cl fp).run pins s1 I⟩) (fun s H C cl fp => ⟨fun pins s1 σ1 H1 Q1 I q => (q s H C cl fp).run pins s1 I⟩) hs)
    (lc_all hi hg ht he F p)
theorem Post.gc {m : List Addr} {h : Mh} {H : Hp} {σ : L2.St} {r : Rs D} {Q : VK} (r0 : Rep T.X.K T.X.w H m h) (p : Post T (RD T) m h H σ (gcR h.length r) Q) : Post T (RD T) m h H σ r Q := by
  have p1 : PostF T.X.K T.X.w T.X.mg m h H r Q (T.W · · σ) := PostF.gc r0 (by
    revert p
    generalize gcR h.length r = rr
    intro p
    cases rr with
    | ok d h' => exact p
    | ex c fs h' => exact p
    | no => exact p)
  cases r with
  | ok d h' => exact p1
  | ex c fs h' => exact p1
  | no => exact p1
theorem je_gc {e : Expr} {f : EE} (he : JE T e f) : JE T e (fun ρ h => gcR h.length (f ρ h)) := fun σ H m h ρ Q F p => he σ H m h ρ Q F (Post.gc F.rep p)
theorem je_lc {scope : Scope} {own : List (Str × Nat)} (hc : T.X.calm = true) (hN : T.X.N.Nodup) (ok : BlkOk T.X.N T.X.env.scope scope own) (hi : JI T tg iter fi)
    (hg : BlkE T scope fun B => JGo B (own.map (·.2)) tg g) (ht : BlkE T scope fun B => JTs B ifs tt) (he : BlkE T scope fun B => JE B elt te) (hs : ∀ x, foldedSetIterable iter T.X.env x = pure x := by intro _; rfl) :
    JE T (.ListComp elt [⟨tg, iter, ifs, 0⟩] scope pos) (eLc (own.map (·.2)) fi g tt te) := je_gc (je_frz (je_lcM hc hN ok hi hg ht he hs))
/-- name = [..] on one line -/
theorem js_setLcM {i : Nat} {y : Str} {py spos : Pos} {scope : Scope} {own : List (Str × Nat)} (hc : T.X.calm = true) (hN : T.X.N.Nodup) (hyl : T.X.env.scope.names.lookup y = some .local) (hsw : swapsWith (.ListComp elt [⟨tg, iter, ifs, 0⟩] scope pos) (some (.Name y py)) spos.line T.X.env = pure true)
    (ok : BlkOk T.X.N T.X.env.scope scope own) (hi : JI T tg iter fi)
    (hg : BlkE T scope fun B => JGo B (own.map (·.2)) tg g) (ht : BlkE T scope fun B => JTs B ifs tt) (he : BlkE T scope fun B => JE B elt te) (hy : T.X.N[i]? = some y := by rfl) (hs : ∀ x, foldedSetIterable iter T.X.env x = pure x := by intro _; rfl) (hfree : FreeSlot T i := by exact fun _ z => nomatch z) :
    JS T (.Assign [.Name y py] (.ListComp elt [⟨tg, iter, ifs, 0⟩] scope pos) spos) (sSet i (eLcM (own.map (·.2)) fi g tt te)) := fun σ H m h ρ Dn F p =>
  WS.of (ps_setLc (g := gU T.X scope tg) (tt := tU T.X scope ifs) (te := eU T.X scope elt) hc hN hy hyl hsw wi_pi ok (fun s H C cl fp => ⟨fun pins s1 σ1 H1 v u Q1 I r q => (q s H C cl fp).run pins s1 u I r⟩) (fun s H C cl fp => ⟨fun pins s1 σ1 H1 Q1 I q => (q s H C cl fp).run pins s1 I⟩) (fun s H C cl fp => ⟨fun pins s1 σ1 H1 Q1 I q => (q s H C cl fp).run pins s1 I⟩) hs)
    (lc_all (Q := fun x H1 => gName i x σ H1 Dn.nx) hi hg ht he F (PostS.bindE F p fun d h1 v H1 m1 r1 x1 q1 p1 => p1 _ H1 m1 ((F.step r1 x1).set q1 hfree) .refl))
end
end DL

namespace DL
open PySem PySem.Spec PyProof.Rows L2 TL
theorem takes_no0 {X : Cx} : Takes X (fun _ _ _ _ => False) := fun u s' ⟨a, B, sI, pins, σ, H, cls, d, e, I, nb, up, sky, na, os, ag, w⟩ => w.elim
theorem takes_no {X : Cx} {xi : Option XI} : Tk ⟨X, fun _ _ _ _ => False, xi⟩ := ⟨takes_no0⟩
def blkB (N : List Str) (sc scope : Scope) (own : List (Str × Nat)) : Bool :=
  decide (scope.kind = .function) && (scope.names.all fun y => decide (scope.names.lookup y.1 = some y.2)) && (own.all fun p => decide (N[p.2]? = some p.1)) &&
  (scope.names.all fun y => decide (y.2 = .free → sc.names.lookup y.1 = some .cell ∨ sc.names.lookup y.1 = some .free)) &&
  (scope.names.all fun y => decide (y.2 = .local ∨ y.2 = .cell → y.1 ∈ own.map (·.1) ∨ y.1 ∉ N))
theorem blk_of {N : List Str} {sc scope : Scope} {own : List (Str × Nat)} (h : blkB N sc scope own = true) : BlkOk N sc scope own := by
  unfold blkB at h
  simp only [Bool.and_eq_true, List.all_eq_true, decide_eq_true_eq] at h
  obtain ⟨⟨⟨⟨h1, h2⟩, h3⟩, h4⟩, h5⟩ := h
  exact ⟨h1, h2, h3, h4, h5⟩
/-- a module's constant -/
structure GlobD (K : PySem.W.Frag) (w : World) (mg : Str → Option Value) (x : Str) (d : D) : Prop where
  ex : ∃ (v : V) (u : Value), mg x = some u ∧ RelV v u ∧ ∀ H m h, IsD K w H (Live m h) m v d
section
variable {T : Tx} {pos : Pos} {e a elt tg iter : Expr} {ifs : List Expr} {fi : EL} {g : GG} {te : EE} {tt : EB} {f : EE}
theorem je_gl {x : Str} {d : D} (k : GlobD T.X.K T.X.w T.X.mg x d) (hg : Gl T.X x := by rfl) (hd : (x == ("__debug__" : Str)) = false := by decide) : JE T (.Name x pos) (eC d) := by
  obtain ⟨v, u, h1, h2, h3⟩ := k.ex
  exact je_glob hg h1 h2 h3 hd
def tIs (f : EE) : EB := fun ρ h => (f ρ h).bind isB
/-- the frozen one, named -/
theorem js_setLc {i : Nat} {y : Str} {py spos : Pos} {scope : Scope} {own : List (Str × Nat)} (hc : T.X.calm = true) (hN : T.X.N.Nodup) (hyl : T.X.env.scope.names.lookup y = some .local) (hsw : swapsWith (.ListComp elt [⟨tg, iter, ifs, 0⟩] scope pos) (some (.Name y py)) spos.line T.X.env = pure true)
    (ok : BlkOk T.X.N T.X.env.scope scope own) (hi : JI T tg iter fi)
    (hg : BlkE T scope fun B => JGo B (own.map (·.2)) tg g) (ht : BlkE T scope fun B => JTs B ifs tt) (he : BlkE T scope fun B => JE B elt te) (hy : T.X.N[i]? = some y := by rfl) (hs : ∀ x, foldedSetIterable iter T.X.env x = pure x := by intro _; rfl) (hfree : FreeSlot T i := by exact fun _ z => nomatch z) :
    JS T (.Assign [.Name y py] (.ListComp elt [⟨tg, iter, ifs, 0⟩] scope pos) spos) (sSet i (eLc (own.map (·.2)) fi g tt te)) := fun σ H m h ρ Dn F p =>
  WS.of (ps_setLc (g := gU T.X scope tg) (tt := tU T.X scope ifs) (te := eU T.X scope elt) hc hN hy hyl hsw wi_pi ok (fun s H C cl fp => ⟨fun pins s1 σ1 H1 v u Q1 I r q => (q s H C cl fp).run pins s1 u I r⟩) (fun s H C cl fp => ⟨fun pins s1 σ1 H1 Q1 I q => (q s H C cl fp).run pins s1 I⟩) (fun s H C cl fp => ⟨fun pins s1 σ1 H1 Q1 I q => (q s H C cl fp).run pins s1 I⟩) hs)
    (lc_all (Q := fun x H1 => gName i x σ H1 Dn.nx) hi hg ht he F (Post.frz (Post.gc F.rep (PostS.bindE F p fun d h1 v H1 m1 r1 x1 q1 p1 => p1 _ H1 m1 ((F.step r1 x1).set q1 hfree) .refl))))
/-! live results of + and * -/
def liveR (r : Rs D) : Rs D := match r with
  | .ok (.lst ds) h => .ok (.ref h.length) (h ++ [.lst ds])
  | _ => .no
end
theorem slot_bt : True := trivial
end DL

namespace DL
open PySem PySem.Spec PySem.Calls PyProof.Rows L2 TL
/-! ### an own error's __init__: super().__init__(..), then its fields -/
/-- the body's context, the class in a cell -/
def cxS (P : Program) (w : World) (K : PySem.W.Frag) (mg : Str → Option Value) (base : Heap) (CX : CXT) (N : List Str) (qual : Str) (scope : Scope) (f : Addr) (cd : Value) (cc : Addr) (A : Around) (outer : List Env) (s : Shared) (H : Hp) (E : XK) : Cx :=
  { prog := P, w := w, K := K, mg := mg, base := base, A := A.deeper (PySem.W.ksEnv qual scope s.heap.objs.size f cd cc), N := N, s_0 := s, H_0 := H
    env := PySem.W.ksEnv qual scope s.heap.objs.size f cd cc, outer := outer, stack := PySem.W.ksEnv qual scope s.heap.objs.size f cd cc :: outer, ex := [], calm := true, fn := fun _ => false, pn := []
    xe := fun e s' => wpAny (model P w) (A.deeper (PySem.W.ksEnv qual scope s.heap.objs.size f cd cc)) (leaving (PySem.W.ksEnv qual scope s.heap.objs.size f cd cc) e) (fun _ s'' => CX outer H s E e s'') (fun e' s'' => CX outer H s E e' s'') s' }
structure IScope (N P : List Str) (sc : Scope) : Prop where
  kind : sc.kind = .function
  co : sc.isCoroutine = false
  gen : sc.isGenerator = false
  nd : N.Nodup
  pre : N.take P.length = P
  par : ∀ x ∈ P, sc.names.lookup x = some .local
  nocell : ∀ y ∈ sc.names, y.2 ≠ .cell
  free : ∀ y ∈ sc.names, y.2 = .free → y.1 = ("__class__" : Str)
  sup : sc.names.lookup ("super" : Str) = some .globalImplicit
  cls : sc.names.lookup ("__class__" : Str) = some .free
section
variable {P : Program} {w : World} {K : PySem.W.Frag} {mg : Str → Option Value} {base : Heap} {CX : CXT} {N ps : List Str} {qual : Str} {scope : Scope} {f cc : Addr} {cd : Value} {A : Around} {outer : List Env} {s : Shared} {H : Hp} {E : XK}
theorem inv_startS {us : List Value} {vs : List V} {h1 : Heap} {tk : Nat} {C : Addr} {cl : Value} {cld : Option Addr} {csl : Array (Option Value)} (S : IScope N ps scope) (hd : A.handled = none) (e0 : Env0 P w K mg base A outer s H) (hl : vs.length = ps.length) (r : Vals vs us)
    (hcell : K.lookup cc = some ⟨cl, cld, .cell (some (.ref C)), csl⟩) (hns : h1.Ns s.heap.objs.size (fun x => (ps.zip us).reverse.lookup x)) (hk : ∀ b o, s.heap.get? b = some o → h1.get? b = some o) :
    Inv (cxS P w K mg base CX N qual scope f cd cc A outer s H E) [] (L2.start N vs) H { s with heap := h1, toks := tk } := by
  have hpl : ps.length ≤ N.length := by have := congrArg List.length S.pre; rw [List.length_take] at this; omega
  have noA : ∀ b : Addr, b ∉ (cxS P w K mg base CX N qual scope f cd cc A outer s H E).ex := fun b z => absurd (show b ∈ ([] : List Addr) from z) (by simp)
  have hcb : base.get? cc = some ⟨cl, cld, .cell (some (.ref C)), csl⟩ := e0.mod.kin _ _ hcell
  have one : ∀ y c, (cxS P w K mg base CX N qual scope f cd cc A outer s H E).env.cells.lookup y = some c → y = ("__class__" : Str) ∧ c = cc := fun y c h => by
    have h : List.lookup y [(("__class__" : Str), cc)] = some c := h
    rw [List.lookup_cons] at h
    by_cases e : y == ("__class__" : Str)
    · rw [e] at h
      exact ⟨beq_iff_eq.mp e, (Option.some.inj h).symm⟩
    · rw [Bool.eq_false_iff.mpr e] at h; cases h
  have hn : H s.heap.objs.size = none := e0.hok.fresh (Nat.le_refl _)
  refine ⟨⟨e0.mod, S.kind, rfl, rfl, Nat.le_refl _, fun y z c a b => (one y c a).1.trans (one z c b).1.symm, fun y hy => ?_, (fun y c q _ => by cases (show (false : Bool) = true from q)), fun _ => hd, Around.frames_deeper e0.frames, .inr ⟨rfl, rfl⟩, fun b z => absurd z (noA b), e0.bs, e0.bsz, fun b _ _ => noA b, fun b z => absurd z (noA b), e0.funs, e0.frf⟩,
    rfl, e0.bare, Un.kept hk, ⟨_, hns, fun i y v a b c => ?_⟩, fun y c q => ?_, hn, fun y c q => ?_, fun p hp => absurd (show p ∈ ([] : List (Addr × Obj)) from hp) (by simp), e0.hok.kept hk, ?_⟩
  · have hy : scope.names.lookup y = some .cell ∨ scope.names.lookup y = some .free := hy
    rcases hy with hy | hy
    · exact absurd rfl (S.nocell _ (PySem.mem_of_lookup hy))
    · have := S.free _ (PySem.mem_of_lookup hy) rfl
      have e : y = ("__class__" : Str) := this
      subst e
      exact ⟨cc, rfl⟩
  · have hi : i < vs.length := by
      unfold L2.start at b
      by_cases hi : i < vs.length
      · exact hi
      · rw [List.getElem?_append_right (by simpa using hi), List.getElem?_replicate] at b
        split at b <;> cases b
    have ha : vs[i]? = some v := by
      unfold L2.start at b
      rw [List.getElem?_append_left (by simpa using hi), List.getElem?_map] at b
      cases e : vs[i]? with
      | none => rw [e] at b; cases b
      | some a => rw [e] at b; cases b; rfl
    obtain ⟨u, hu, rv⟩ := r.get ha
    have hp : ps[i]? = some y := by
      rw [← S.pre, List.getElem?_take_of_lt (by omega)]; exact a
    have ndP : ps.Nodup := by rw [← S.pre]; exact S.nd.sublist (List.take_sublist _ _)
    refine ⟨u, rv, .inl ⟨S.par y (List.mem_of_getElem? hp), ?_⟩⟩
    have z : ∀ {ps : List Str} {us : List Value} {i : Nat}, ps.Nodup → ps[i]? = some y → us[i]? = some u → (ps.zip us).reverse.lookup y = some u := by
      intro ps
      induction ps with
      | nil => intro us i _ h _; cases h
      | cons p ps ih =>
        intro us i nd h1 h2
        cases us with
        | nil => cases h2
        | cons u0 us =>
          rw [List.zip_cons_cons, List.reverse_cons, List.lookup_append]
          cases i with
          | zero =>
            cases h1; cases h2
            have e : (ps.zip us).reverse.lookup y = none := by
              refine List.lookup_eq_none_iff.mpr fun q hq => ?_
              have hm : q.1 ∈ ps := (List.of_mem_zip (List.mem_reverse.mp hq)).1
              have : y ≠ q.1 := fun e => (List.nodup_cons.mp nd).1 (e ▸ hm)
              simpa using this
            rw [e]
            simp [List.lookup]
          | succ i => rw [ih (List.nodup_cons.mp nd).2 (by simpa using h1) (by simpa using h2)]; rfl
    exact z ndP hp hu
  · obtain ⟨_, rfl⟩ := one y c q
    exact ⟨_, _, hk _ _ (e0.bs _ _ hcb).1, rfl⟩
  · obtain ⟨_, rfl⟩ := one y c q
    exact (e0.bs _ _ hcb).2
  · unfold L2.start
    show _ = N.length
    rw [List.length_append, List.length_map, List.length_replicate]
    omega
end
end DL

namespace DL
open PySem PySem.Spec PySem.Calls PyProof.Rows L2 TL
/-- what the written part tells of such a class and its __init__ -/
structure InitD (P : Program) (K : PySem.W.Frag) (x qual : Str) (params : Arguments) (body : List Stmt) (scope : Scope) (C f : Addr) (fd : FuncData) : Prop where
  ex : ∃ (oc : Value) (od : Option Addr) (dV kV doc pm : Value) (an : Option Addr) (cda : Addr) (ct : Value) (osl : Array (Option Value)) (cc : Addr) (ccl : Value) (cdd : Option Addr) (vs : Array Value) (ccs : Array (Option Value)) (file : Str) (tf : Tok) (cl : Value) (cld : Option Addr) (csl : Array (Option Value)),
    fd = PySem.W.ksFn x qual params body scope dV kV doc pm an (.ref cda) ct cc ∧ K.lookup f = some ⟨oc, od, .func fd, osl⟩ ∧ PySem.W.codeIn K (.ref cda) qual = true ∧
    (K.lookup cda = some ⟨ccl, cdd, .fields vs, ccs⟩ ∧ vs[2]? = some (.str file tf) ∧ ((P.main.file : Str) == file) = true) ∧ K.lookup cc = some ⟨cl, cld, .cell (some (.ref C)), csl⟩
  opq : PySem.W.nsIn K cStatics "thirdparty.any" = some none
  sin : PySem.W.ks_superIn K C C "__init__" = some (some (.builtin "ValueError.__init__"))
  sub : PySem.W.subIn K (.ref C) (.type "ValueError") = some true
  mro : PySem.W.mroIn K C (.ref C) = some true
  oex : OexC K C
section
variable {P : Program} {w : World} {K : PySem.W.Frag} {mg : Str → Option Value} {base : Heap} {CX : CXT} {N ps : List Str} {x qual : Str} {params : Arguments} {scope : Scope} {body : List Stmt} {C f : Addr} {fd : FuncData} {A : Around} {outer : List Env} {s0 : Shared} {H0 : Hp} {E0' : XK}
/-- ValueError.__init__, bound to the object at a, called -/
theorem mw_call {X : Cx} {pins : List (Addr × Obj)} {σ : L2.St} {H : Hp} {s : Shared} {a u C : Addr} {us : List Value} {Q : Value → Shared → Prop} {E : Value → Shared → Prop} (T : OexC X.K C) (I : Inv X pins σ H s) (e : H a = some (exo a C none)) (hu : s.heap.get? u = some (PySem.W.kxs_mw "ValueError.__init__" a)) (hl : us.length ≤ sizeLine) (h : ∀ s', Inv X pins σ H s' → Q .none s') :
    wpAny (model X.prog X.w) X.A (call (.ref u) us) Q E s := by
  obtain ⟨nm, q, N, bs, bm, sn, sub, ab, col, dd, k0, k1, k2, k3, k5, hC, hbm⟩ := T.cls
  obtain ⟨t1, ho⟩ := exo_at I.hok e
  have hC' := I.kIn _ _ hC
  obtain ⟨hp, g, d, t, os⟩ := s
  refine wpAny_call (codeAny_of_tree ?_)
  show wpAny _ X.A.in1 (callAny (.ref u) ⟨us, []⟩) _ _ _
  simp only [callAny]
  refine wpAny_bind (wpAny_load hu ?_)
  simp only [PySem.W.kxs_mw, show (Value.type "method-wrapper" == Value.type "method" || Value.type "method-wrapper" == Value.type "builtin_function_or_method" || Value.type "method-wrapper" == Value.type "method-wrapper") = true by decide, if_true]
  refine PySem.W.KFB.if_so (by decide) ?_
  refine wpAny_bind (PySem.W.check_bound_init (F.excBase_ValueError).toExcCallFacts hC' ho rfl ?_)
  refine wpAny_bind (wpAny_pure (wpAny_pure ?_))
  refine ⟨plainId_quiet (F.excBase_ValueError).init.plain _, codeAny_builtin (F.excBase_ValueError).initEntry ?_⟩
  refine PySem.W.exc_init_tree (cls := .ref C) (t0 := t1) (dv := none) (c2 := .none) (c3 := .none) (b4 := .bool false) ho hl fun h' k hx _ => ?_
  have J := I.write (t' := t) (x := a) (e := a) (o := exo a C none) (by rw [e]; exact True.intro) (.inl rfl) k ⟨_, hx⟩ (exo_ok hx)
  have eu : upd H a (exo a C none) = H := by
    funext b
    by_cases hb : b = a
    · rw [hb, upd_same, e]
    · rw [upd_ne hb]
  rw [eu] at J
  exact h _ J
/-- super().__init__(e, ..), the first statement of such an __init__ -/
theorem sup_stmt {dV kV doc pm ct : Value} {an : Option Addr} {cda cc : Addr} {ar : Arg} {e : Expr} {es : List Expr} {ta : TA} {p0 p1 p2 p3 p4 : Pos} {a : Addr} {σ : L2.St} {H : Hp} {s : Shared} {Dn : Ends}
    (D : InitD P K x qual params body scope C f fd) (S : IScope N ps scope) (hsup : mg "super" = none)
    (hfd : fd = PySem.W.ksFn x qual params body scope dV kV doc pm an (.ref cda) ct cc) (hf : ∃ oc od osl, K.lookup f = some ⟨oc, od, .func fd, osl⟩)
    (hcode : ∃ ccl cdd vs ccs file tf, K.lookup cda = some ⟨ccl, cdd, .fields vs, ccs⟩ ∧ vs[2]? = some (.str file tf) ∧ ((P.main.file : Str) == file) = true) (hcell : ∃ cl cld csl, K.lookup cc = some ⟨cl, cld, .cell (some (.ref C)), csl⟩)
    (hp : (params.posonlyargs ++ params.args).head? = some ar) (har : N[0]? = some ar.arg) (hka : scope.names.lookup ar.arg = some .local) (htop : (P.main.scope.names.lookup ("super" : Str)).isSome = false)
    (ha : PA (cxS P w K mg base CX N qual scope f (.ref cda) cc A outer s0 H0 E0') (e :: es) ta) (I : Inv (cxS P w K mg base CX N qual scope f (.ref cda) cc A outer s0 H0 E0') [] σ H s)
    (h0 : σ[0]? = some (some (.ref a))) (hq : ta σ H fun us H1 => us.length ≤ 1000 ∧ H1 a = some (exo a C none) ∧ Dn.nx σ H1) (hH : H a = some (exo a C none))
    (he : starEach (e :: es) (cxS P w K mg base CX N qual scope f (.ref cda) cc A outer s0 H0 E0').env = (false, eval e (cxS P w K mg base CX N qual scope f (.ref cda) cc A outer s0 H0 E0').env) :: starEach es (cxS P w K mg base CX N qual scope f (.ref cda) cc A outer s0 H0 E0').env)
    (hpl : (backTo p3 (starEach es (cxS P w K mg base CX N qual scope f (.ref cda) cc A outer s0 H0 E0').env)).any (·.1) = false) {pl : Sem Bool}
    (hev : eval (.Call (.Attribute (.Call (.Name "super" p0) [] [] p1) "__init__" p2) (e :: es) [] p3) (cxS P w K mg base CX N qual scope f (.ref cda) cc A outer s0 H0 E0').env = (do
      let ov ← attributeBase (.Call (.Name "super" p0) [] [] p1) "__init__" (cxS P w K mg base CX N qual scope f (.ref cda) cc A outer s0 H0 E0').env (eval (.Call (.Name "super" p0) [] [] p1) (cxS P w K mg base CX N qual scope f (.ref cda) cc A outer s0 H0 E0').env)
      standAt p2.atName
      let (fm, first) ← holding [ov] (getMethod ov "__init__" pl)
      callWith p3 fm first (backTo p3 (starEach (e :: es) (cxS P w K mg base CX N qual scope f (.ref cda) cc A outer s0 H0 E0').env)) []))
    (hi : interactive (cxS P w K mg base CX N qual scope f (.ref cda) cc A outer s0 H0 E0').env = false) (hs : swapsWith (.Call (.Attribute (.Call (.Name "super" p0) [] [] p1) "__init__" p2) (e :: es) [] p3) none p4.line (cxS P w K mg base CX N qual scope f (.ref cda) cc A outer s0 H0 E0').env = pure false) :
    _root_.PySem.wpAt (model P w) (cxS P w K mg base CX N qual scope f (.ref cda) cc A outer s0 H0 E0').A (.func body (PySem.W.ksEnv qual scope s0.heap.objs.size f (.ref cda) cc))
      (exec (.Expr (.Call (.Attribute (.Call (.Name "super" p0) [] [] p1) "__init__" p2) (e :: es) [] p3) p4) (cxS P w K mg base CX N qual scope f (.ref cda) cc A outer s0 H0 E0').env) (SP (cxS P w K mg base CX N qual scope f (.ref cda) cc A outer s0 H0 E0') [] Dn) (cxS P w K mg base CX N qual scope f (.ref cda) cc A outer s0 H0 E0').xe s := by
  generalize hX : cxS P w K mg base CX N qual scope f (.ref cda) cc A outer s0 H0 E0' = X at *
  have hXp : X.prog = P := by rw [← hX]; rfl
  have hXw : X.w = w := by rw [← hX]; rfl
  have hXK : X.K = K := by rw [← hX]; rfl
  have hXN : X.N = N := by rw [← hX]; rfl
  have hXm : X.mg = mg := by rw [← hX]; rfl
  have hXe : X.env = PySem.W.ksEnv qual scope s0.heap.objs.size f (.ref cda) cc := by rw [← hX]; rfl
  subst hXp hXw hXK hXm
  obtain ⟨oc, od, osl, hf⟩ := hf
  obtain ⟨ccl, cdd, vs, ccs, file, tf, hcode, hvs, hfile⟩ := hcode
  obtain ⟨cl, cld, csl, hcell⟩ := hcell
  have XK : X.K.In s.heap := I.kIn
  have T := D.oex
  obtain ⟨t1, ho⟩ := exo_at I.hok hH
  obtain ⟨nm, q, Nc, bs, bm, sn, sub, ab, col, dd, k0, k1, k2, k3, k5, hC, hbm⟩ := T.cls
  have hcl : PySem.W.clsIn X.K C = some { name := nm, bases := bs, mro := .ref C :: bm, ns := Nc, qualname := q, hasDict := true, slotNames := sn, subclasses := sub, abstract := ab, collection := col, hasDel := false } := by unfold PySem.W.clsIn; rw [hC] <;> rfl
  have J0 : PySem.W.InstAt s.heap a { cls := .ref C, dict := none, data := .fields #[.ref t1, .none, .none, .none, .bool false, .none] } C none := ⟨ho, rfl, rfl, trivial⟩
  refine PySem.ks_wpAt_Expr_any (PySem.ks_wpAt_MethodCall ?_ hev) hi hs
  rw [hXe]
  refine PySem.ks_wpAt_super_base (body := body) (env := PySem.W.ksEnv qual scope s0.heap.objs.size f (.ref cda) cc) (S.sup) (S.cls) (by decide +kernel) rfl (XK _ _ hf) rfl (by rw [hfd]; exact hp) rfl (XK _ _ hcode) rfl hvs hfile htop ?_
  obtain ⟨mb, hb1, hb2⟩ := I.mod.blt
  refine PySem.W.ks_loadName_global S.kind S.sup (loadGlobal_builtin (env := PySem.W.ksEnv qual scope s0.heap.objs.size f (.ref cda) cc) (I.mod.glob.keeps I.bk) hsup (hb1.keeps I.bk) ((hb2 _ (by decide +kernel)).trans (by decide +kernel : bootBuiltins "super" = some (.type "super"))) ⟨rfl, ?_⟩)
  refine wpAny_loadName_free S.kind S.cls rfl ⟨_, XK _ _ hcell, rfl⟩ ?_
  obtain ⟨m, hn, hl⟩ := I.loc
  obtain ⟨u0, ru, hlook⟩ := hl 0 ar.arg (.ref a) (by rw [hXN]; exact har) h0 (by rw [hXe]; exact .inl hka)
  obtain rfl : u0 = Value.ref a := ru
  have hm : m ar.arg = some (.ref a) := by
    rcases hlook with ⟨_, h⟩ | ⟨h, _⟩
    · exact h
    · rw [hXe] at h
      have h : scope.names.lookup ar.arg = some .cell ∨ scope.names.lookup ar.arg = some .free := h
      rw [hka] at h
      rcases h with h | h <;> cases h
  refine wpAny_loadName_local S.kind hka (by rw [hXe] at hn; exact hn) hm ?_
  obtain ⟨hh, g, d, t, os⟩ := s
  refine PySem.ks_wpAny_isType_cls (XK _ _ hC) rfl ⟨rfl, ?_⟩
  refine PySem.ks_wpAny_call_super (XK _ _ hC) rfl ho rfl (fun c z => by cases z) (PySem.W.looks_mroIn XK D.mro) (fun h' so k => ?_)
  have I1 : Inv X [] σ H ⟨h', g, d, t, os⟩ := I.kept (t' := t) k
  have X1 : X.K.In h' := I1.kIn
  have J1 : PySem.W.InstAt h' a _ C none := ⟨k _ _ ho, rfl, rfl, trivial⟩
  have hsin : PySem.W.alongIn X.K "__init__" (((Value.ref C :: bm).dropWhile (· != .ref C)).drop 1) = some (some (.builtin "ValueError.__init__")) := by
    have z := D.sin
    unfold PySem.W.ks_superIn at z
    rw [hcl] at z
    exact z
  refine PySem.W.kxs_getMethod PySem.W.kxs_ValueError so (PySem.W.looks_opaque X1 D.opq) (l₀ := .ref C :: bm) (fun A Q E s k q => wpAny_bind ((PySem.W.looks_clsIn X1 hcl) A _ E s k (wpAny_pure q))) rfl X1 hsin (J1.type.andThen (PySem.W.looks_subIn X1 D.sub)) (PySem.W.ks_ne X1 J1 hcl) (by decide +kernel) ?_
  have hu : (h'.push (PySem.W.kxs_mw "ValueError.__init__" a)).get? h'.objs.size = some (PySem.W.kxs_mw "ValueError.__init__" a) := Heap.get?_push_at rfl rfl
  have I2 : Inv X [] σ H ⟨h'.push (PySem.W.kxs_mw "ValueError.__init__" a), g, d, t + 1, os⟩ := I1.kept (t' := t + 1) fun b o e => Heap.get?_push_of_some _ e
  have I3 : Inv X [(h'.objs.size, PySem.W.kxs_mw "ValueError.__init__" a)] σ H ⟨h'.push (PySem.W.kxs_mw "ValueError.__init__" a), g, d, t + 1, os⟩ := I2.pins_of fun p hp => by
    obtain rfl := List.mem_singleton.mp hp
    exact ⟨hu, I1.hok.fresh (Nat.le_refl _), fun z => absurd I1.lt (by rw [← z]; exact Nat.lt_irrefl _), I1.nofs (Nat.le_refl _), fun v z => by cases z⟩
  rw [← hXe]
  show wpAny (model X.prog X.w) X.A (callWith p3 (.ref h'.objs.size) [] (backTo p3 (starEach (e :: es) X.env)) []) _ _ _
  have go := thn (ha.run p3 _ _ σ H (fun us H1 => us.length ≤ 1000 ∧ H1 a = some (exo a C none) ∧ Dn.nx σ H1) I3 hq) (Q' := fun us s1 => PySem.W.KxsAt "ValueError.__init__" h'.objs.size a s1.heap ∧ wpAny (model X.prog X.w) X.A (call (.ref h'.objs.size) us) (fun _ => SP X [] Dn .next) X.xe s1) fun us s1 ⟨vs1, H1, I4, r4, l4, e4, q4⟩ =>
    ⟨(I4.pin _ (List.mem_append_right _ (List.mem_singleton.mpr rfl))).1, mw_call T (I4.unpinned (pins := [])) e4 (I4.pin _ (List.mem_append_right _ (List.mem_singleton.mpr rfl))).1 (by rw [← Paired.length r4, sizeLine_eq]; omega) fun s' J => ⟨σ, H1, J, q4⟩⟩
  rw [he] at go ⊢
  exact PySem.W.kxs_callWith (i := "ValueError.__init__") (x := a) (by show (false || (backTo p3 (starEach es X.env)).any (·.1)) = false; rw [hpl]; rfl) (evalArgs_plain go)
end
end DL

namespace DL
open PySem PySem.Spec PySem.Calls PyProof.Rows L2 TL
section
variable {P : Program} {w : World} {K : PySem.W.Frag} {mg : Str → Option Value} {base : Heap} {CX : CXT} {N ps : List Str} {x qual : Str} {params : Arguments} {scope : Scope} {body : List Stmt} {C f : Addr} {fd : FuncData}
theorem fn_init {k : Nat} {sp : Sp} {ar : Arg} {e : Expr} {es : List Expr} {rest : List Stmt} {p0 p1 p2 p3 p4 : Pos}
    (D : InitD P K x qual params body scope C f fd) (S : IScope N ps scope) (hsup : mg "super" = none) (hb : body = .Expr (.Call (.Attribute (.Call (.Name "super" p0) [] [] p1) "__init__" p2) (e :: es) [] p3) p4 :: rest)
    (hp : (params.posonlyargs ++ params.args).head? = some ar) (har : N[0]? = some ar.arg) (hka : scope.names.lookup ar.arg = some .local) (htop : (P.main.scope.names.lookup ("super" : Str)).isSome = false)
    (len : ∀ vs H Q E, sp vs H Q E → vs.length = ps.length)
    (hbody : ∀ (cda cc : Addr) (A : Around) (outer : List Env) (s : Shared) (H : Hp) (vs : List V) (Q : VK) (E : XK), sp vs H Q E → ∃ (a : Addr) (ta : TA) (t : TS), vs[0]? = some (.ref a) ∧ H a = some (exo a C none) ∧
      PA (cxS P w K mg base CX N qual scope f (.ref cda) cc A outer s H E) (e :: es) ta ∧ PSs (cxS P w K mg base CX N qual scope f (.ref cda) cc A outer s H E) rest t ∧
      ta (L2.start N vs) H fun us H1 => us.length ≤ 1000 ∧ H1 a = some (exo a C none) ∧ t { nx := fun _ H' => Q .non H', rt := Q } (L2.start N vs) H1)
    (he : ∀ (cda cc : Addr) (L : Addr), starEach (e :: es) (PySem.W.ksEnv qual scope L f (.ref cda) cc) = (false, eval e (PySem.W.ksEnv qual scope L f (.ref cda) cc)) :: starEach es (PySem.W.ksEnv qual scope L f (.ref cda) cc))
    (hpl : ∀ (cda cc : Addr) (L : Addr), (backTo p3 (starEach es (PySem.W.ksEnv qual scope L f (.ref cda) cc))).any (·.1) = false)
    (hev : ∀ (cda cc : Addr) (L : Addr), ∃ pl : Sem Bool, eval (.Call (.Attribute (.Call (.Name "super" p0) [] [] p1) "__init__" p2) (e :: es) [] p3) (PySem.W.ksEnv qual scope L f (.ref cda) cc) = (do
      let ov ← attributeBase (.Call (.Name "super" p0) [] [] p1) "__init__" (PySem.W.ksEnv qual scope L f (.ref cda) cc) (eval (.Call (.Name "super" p0) [] [] p1) (PySem.W.ksEnv qual scope L f (.ref cda) cc))
      standAt p2.atName
      let (fm, first) ← holding [ov] (getMethod ov "__init__" pl)
      callWith p3 fm first (backTo p3 (starEach (e :: es) (PySem.W.ksEnv qual scope L f (.ref cda) cc))) []))
    (hi : ∀ (cda cc : Addr) (L : Addr), interactive (PySem.W.ksEnv qual scope L f (.ref cda) cc) = false) (hs : ∀ (cda cc : Addr) (L : Addr), swapsWith (.Call (.Attribute (.Call (.Name "super" p0) [] [] p1) "__init__" p2) (e :: es) [] p3) none p4.line (PySem.W.ksEnv qual scope L f (.ref cda) cc) = pure false) :
    FnOk P w K mg base CX (k + 1) f fd ps sp := by
  obtain ⟨oc, od, dV, kV, doc, pm, an, cda, ct, osl, cc, ccl, cdd, cvs, ccs, file, tf, cl, cld, csl, hfd, lk, hcd, hcode, hcell⟩ := D.ex
  refine ⟨len, fun A outer s H args us vs Q E hr e0 hbd r hsp => ?_⟩
  have hl := len _ _ _ _ hsp
  have KX : K.In s.heap := e0.mod.kin.keeps fun b o e => (e0.bs b o e).1
  have lim : s.heap.NoLimit := e0.mod.nolimit.keeps fun b o e => (e0.bs b o e).1
  have hbd' : BindsTo s (PySem.W.ksFn x qual params body scope dV kV doc pm an (.ref cda) ct cc) args (ps.zip us) := hfd ▸ hbd
  refine PySem.ks_codeAny_call_defAt (fd := PySem.W.ksFn x qual params body scope dV kV doc pm an (.ref cda) ct cc) (body := body) (binds := ps.zip us) hr.depth (KX _ _ lk) (by rw [hfd]) lim (PySem.W.codeRec_of KX hcd) rfl hbd' S.nocell (fun y hy => S.par _ (List.of_mem_zip hy).1) (fun h1 hns hk1 => ?_) S.co S.gen S.kind
  have I : Inv (cxS P w K mg base CX N qual scope f (.ref cda) cc A outer s H E) [] (L2.start N vs) H { s with heap := h1, toks := s.toks + (ps.zip us).length } := inv_startS S hr.hd e0 hl r hcell hns hk1
  obtain ⟨a, ta, t, hv0, hH, ha, ht, hq⟩ := hbody cda cc A outer s H vs Q E hsp
  have h0 : (L2.start N vs)[0]? = some (some (.ref a)) := by
    unfold L2.start
    cases vs with
    | nil => cases hv0
    | cons v vs => cases hv0; rfl
  obtain ⟨pl, hev0⟩ := hev cda cc s.heap.objs.size
  have st := sup_stmt (body := body) (Dn := { nx := fun σ1 H1 => t { nx := fun _ H' => Q .non H', rt := Q } σ1 H1, rt := fun _ _ => False }) D S hsup hfd ⟨oc, od, osl, lk⟩ ⟨ccl, cdd, cvs, ccs, file, tf, hcode⟩ ⟨cl, cld, csl, hcell⟩ hp har hka htop ha I h0 hq hH (he cda cc _) (hpl cda cc _) hev0 (hi cda cc _) (hs cda cc _)
  have all : _root_.PySem.wpAt (model P w) (A.deeper (PySem.W.ksEnv qual scope s.heap.objs.size f (.ref cda) cc)) (.func body (PySem.W.ksEnv qual scope s.heap.objs.size f (.ref cda) cc)) (execs body (PySem.W.ksEnv qual scope s.heap.objs.size f (.ref cda) cc))
      (SP (cxS P w K mg base CX N qual scope f (.ref cda) cc A outer s H E) [] { nx := fun _ H' => Q .non H', rt := Q }) (cxS P w K mg base CX N qual scope f (.ref cda) cc A outer s H E).xe { s with heap := h1, toks := s.toks + (ps.zip us).length } := by
    conv in execs body _ => rw [hb]
    refine PySem.ks_wpAt_execs_cons (PySem.ks_wpAt_mono st (fun fl s' hs' => ?_) fun _ _ z => z)
    cases fl with
    | next =>
      obtain ⟨σ', H', J, q⟩ := hs'
      exact PySem.wpAt_of_wpAny (ht.run [] s' σ' H' _ J q)
    | ret u => obtain ⟨_, _, _, _, _, q⟩ := hs'; exact q.elim
    | brk => obtain ⟨_, _, _, q⟩ := hs'; exact q.elim
    | cont => obtain ⟨_, _, _, q⟩ := hs'; exact q.elim
  have fin : ∀ {σ' : L2.St} {H' : Hp} {v : V} {u : Value} {s' : Shared}, Inv (cxS P w K mg base CX N qual scope f (.ref cda) cc A outer s H E) [] σ' H' s' → RelV v u → Q v H' → CE outer P w H s Q u s' :=
    fun {σ' H' v u s'} J rv q => ⟨v, H', J.os, J.bare, J.base, J.hok, rv, q⟩
  refine PySem.ks_wpAt_mono all (fun fl s' hs' => ?_) fun e s' z => z
  cases fl with
  | ret u =>
    obtain ⟨v, σ', H', J, rv, q⟩ := hs'
    exact fin J rv q
  | next =>
    obtain ⟨σ', H', J, q⟩ := hs'
    exact fin (v := V.non) (u := Value.none) J rfl q
  | brk => obtain ⟨_, _, _, q⟩ := hs'; exact q.elim
  | cont => obtain ⟨_, _, _, q⟩ := hs'; exact q.elim
end
end DL

namespace DL
open PySem PySem.Spec PySem.Calls PyProof.Rows L2 TL
/-! ### the promise of such an __init__; raise C(e, ..) -/
/-- fields fs for the values: dict by name, the last one first -/
def spI (C : Addr) (fs : List Str) : Sp := fun vs H Q E => ∃ (a : Addr) (ws : List V), vs = .ref a :: ws ∧ ws.length = fs.length ∧ H a = some (exo a C none) ∧
  ∀ (dx : Addr) (H' : Hp), H dx = none → dx ≠ a → H' a = some (exo a C (some dx)) → H' dx = some (exd dx (fs.zip ws).reverse) → (∀ b, b ≠ a → b ≠ dx → H' b = H b) → Q .non H'
section
variable {P : Program} {w : World} {K : PySem.W.Frag} {mg : Str → Option Value} {base : Heap} {CX : CXT} {x qual : Str} {params : Arguments} {scope : Scope} {body : List Stmt} {C f : Addr} {fd : FuncData}
def supC (p0 p1 p2 p3 : Pos) (es : List Expr) : Expr := .Call (.Attribute (.Call (.Name "super" p0) [] [] p1) "__init__" p2) es [] p3
theorem fn_init1 {self q1 : Str} {ar : Arg} {p0 p1 p2 p3 p4 pa pb pc pd pe : Pos} {k : Nat}
    (D : InitD P K x qual params body scope C f fd) (S : IScope [self, q1] [self, q1] scope) (hsup : mg "super" = none)
    (hb : body = [.Expr (.Call (.Attribute (.Call (.Name "super" p0) [] [] p1) "__init__" p2) [.Name q1 pa] [] p3) p4, .Assign [.Attribute (.Name self pb) q1 pc] (.Name q1 pd) pe])
    (hp : (params.posonlyargs ++ params.args).head? = some ar) (har : ar.arg = self) (htop : (P.main.scope.names.lookup ("super" : Str)).isSome = false)
    (hno : PySem.W.findIn K (.ref C) q1 = some none) (d0 : (self == ("__debug__" : Str)) = false) (d1 : (q1 == ("__debug__" : Str)) = false) (c0 : (self == ("__classdict__" : Str)) = false) (c1 : (q1 == ("__classdict__" : Str)) = false)
    (hev : ∀ (cda cc : Addr) (L : Addr), ∃ pl : Sem Bool, eval (.Call (.Attribute (.Call (.Name "super" p0) [] [] p1) "__init__" p2) [.Name q1 pa] [] p3) (PySem.W.ksEnv qual scope L f (.ref cda) cc) = (do
      let ov ← attributeBase (.Call (.Name "super" p0) [] [] p1) "__init__" (PySem.W.ksEnv qual scope L f (.ref cda) cc) (eval (.Call (.Name "super" p0) [] [] p1) (PySem.W.ksEnv qual scope L f (.ref cda) cc))
      standAt p2.atName
      let (fm, first) ← holding [ov] (getMethod ov "__init__" pl)
      callWith p3 fm first (backTo p3 (starEach [.Name q1 pa] (PySem.W.ksEnv qual scope L f (.ref cda) cc))) [])) : FnOk P w K mg base CX (k + 1) f fd [self, q1] (spI C [q1]) := by
  subst har
  have l0 := S.par ar.arg List.mem_cons_self
  have l1 := S.par q1 (List.mem_cons_of_mem _ List.mem_cons_self)
  refine fn_init D S hsup hb hp rfl l0 htop (fun vs H Q E h => ?_) (fun cda cc A outer s H vs Q E h => ?_) (fun _ _ _ => rfl) (fun _ _ _ => rfl) hev (fun _ _ _ => by simp [interactive, S.kind]) (fun _ _ _ => rfl)
  · obtain ⟨a, ws, rfl, e, _⟩ := h
    rw [List.length_cons, e]; rfl
  · obtain ⟨a, ws, rfl, e, eH, q⟩ := h
    match ws, e with
    | [w1], _ =>
      refine ⟨a, tCons (tVar 1) tNil, tOst _ q1 (tVar 0) (tVar 1), rfl, eH, pa_cons (pe_var rfl (.inl l1) d1 c1) pa_nil, pss_one (ps_ost (pe_var rfl (.inl l0) d0 c0) (pe_var rfl (.inl l1) d1 c1)), ?_⟩
      refine ⟨_, rfl, (show (1 : Nat) ≤ 1000 by decide), eH, _, rfl, _, rfl, a, C, rfl, D.oex, hno, .inl ⟨eH, fun dx hdx ne => ?_⟩⟩
      exact q dx _ hdx ne upd_same (by rw [upd_ne ne, upd_same]; rfl) fun b h1 h2 => by rw [upd_ne h1, upd_ne h2]
theorem fn_init2 {self q1 q2 : Str} {ar : Arg} {p0 p1 p2 p3 p4 pa pa2 pb pc pd pe pb2 pc2 pd2 pe2 : Pos} {k : Nat}
    (D : InitD P K x qual params body scope C f fd) (S : IScope [self, q1, q2] [self, q1, q2] scope) (hsup : mg "super" = none)
    (hb : body = [.Expr (.Call (.Attribute (.Call (.Name "super" p0) [] [] p1) "__init__" p2) [.Name q1 pa, .Name q2 pa2] [] p3) p4, .Assign [.Attribute (.Name self pb) q1 pc] (.Name q1 pd) pe, .Assign [.Attribute (.Name self pb2) q2 pc2] (.Name q2 pd2) pe2])
    (hp : (params.posonlyargs ++ params.args).head? = some ar) (har : ar.arg = self) (htop : (P.main.scope.names.lookup ("super" : Str)).isSome = false)
    (hno : PySem.W.findIn K (.ref C) q1 = some none) (hno2 : PySem.W.findIn K (.ref C) q2 = some none) (d0 : (self == ("__debug__" : Str)) = false) (d1 : (q1 == ("__debug__" : Str)) = false) (d2 : (q2 == ("__debug__" : Str)) = false) (c0 : (self == ("__classdict__" : Str)) = false) (c1 : (q1 == ("__classdict__" : Str)) = false) (c2 : (q2 == ("__classdict__" : Str)) = false)
    (hev : ∀ (cda cc : Addr) (L : Addr), ∃ pl : Sem Bool, eval (.Call (.Attribute (.Call (.Name "super" p0) [] [] p1) "__init__" p2) [.Name q1 pa, .Name q2 pa2] [] p3) (PySem.W.ksEnv qual scope L f (.ref cda) cc) = (do
      let ov ← attributeBase (.Call (.Name "super" p0) [] [] p1) "__init__" (PySem.W.ksEnv qual scope L f (.ref cda) cc) (eval (.Call (.Name "super" p0) [] [] p1) (PySem.W.ksEnv qual scope L f (.ref cda) cc))
      standAt p2.atName
      let (fm, first) ← holding [ov] (getMethod ov "__init__" pl)
      callWith p3 fm first (backTo p3 (starEach [.Name q1 pa, .Name q2 pa2] (PySem.W.ksEnv qual scope L f (.ref cda) cc))) [])) : FnOk P w K mg base CX (k + 1) f fd [self, q1, q2] (spI C [q1, q2]) := by
  subst har
  have l0 := S.par ar.arg List.mem_cons_self
  have l1 := S.par q1 (List.mem_cons_of_mem _ List.mem_cons_self)
  have l2 := S.par q2 (List.mem_cons_of_mem _ (List.mem_cons_of_mem _ List.mem_cons_self))
  refine fn_init D S hsup hb hp rfl l0 htop (fun vs H Q E h => ?_) (fun cda cc A outer s H vs Q E h => ?_) (fun _ _ _ => rfl) (fun _ _ _ => rfl) hev (fun _ _ _ => by simp [interactive, S.kind]) (fun _ _ _ => rfl)
  · obtain ⟨a, ws, rfl, e, _⟩ := h
    rw [List.length_cons, e]; rfl
  · obtain ⟨a, ws, rfl, e, eH, q⟩ := h
    match ws, e with
    | [w1, w2], _ =>
      refine ⟨a, tCons (tVar 1) (tCons (tVar 2) tNil), tSeq (tOst _ q1 (tVar 0) (tVar 1)) (tOst _ q2 (tVar 0) (tVar 2)), rfl, eH, pa_cons (pe_var rfl (.inl l1) d1 c1) (pa_cons (pe_var rfl (.inl l2) d2 c2) pa_nil),
        pss_cons (ps_ost (pe_var rfl (.inl l0) d0 c0) (pe_var rfl (.inl l1) d1 c1)) (pss_one (ps_ost (pe_var rfl (.inl l0) d0 c0) (pe_var rfl (.inl l2) d2 c2))), ?_⟩
      refine ⟨_, rfl, _, rfl, (show (2 : Nat) ≤ 1000 by decide), eH, _, rfl, _, rfl, a, C, rfl, D.oex, hno, .inl ⟨eH, fun dx hdx ne => ?_⟩⟩
      refine ⟨_, rfl, _, rfl, a, C, rfl, D.oex, hno2, .inr ⟨dx, [(q1, w1)], upd_same, by rw [upd_ne ne, upd_same], (show (1 : Nat) ≤ 900 by decide), ?_⟩⟩
      exact q dx _ hdx ne (by rw [upd_ne (Ne.symm ne), upd_same]) (by rw [upd_same]; rfl) fun b h1 h2 => by rw [upd_ne h2, upd_ne h1, upd_ne h2]
end
section
variable {T : Tx} {e : Expr} {es : List Expr} {fl : EL} {pos : Pos}
theorem passes_no {CX' : CXT} {X : Cx} (h : CX' = L2.CX X.prog X.w) {W : WX} (tk : Takes X W) : Passes CX' X (fun _ _ _ => False) := by
  subst h
  exact passes_call tk fun _ _ _ _ z => z.elim
def sRaise (c : String) (fs : List String) (fl : EL) : SS := fun ρ h => sE (fl ρ h) ρ fun ds h1 => match decide (ds.length = fs.length) with
  | true => .xc c (fs.zip ds) ρ h1
  | false => .no
theorem zip_xf {K : PySem.W.Frag} {w : World} {H : Hp} {L : Addr → Prop} {m : List Addr} : ∀ {fs : List String} {ds : List D} {ws : List V}, (fs.map Str.ofString).Nodup → IsDs K w H L m ws ds → ∀ f d, (fs.zip ds).lookup f = some d → ∃ v, (((fs.map Str.ofString).zip ws).reverse).lookup (Str.ofString f) = some v ∧ IsD K w H L m v d
  | [], _, _, _, _, f, d, e => by cases e
  | g :: fs, [], _, _, _, f, d, e => by cases e
  | g :: fs, d0 :: ds, _, nd, .cons (v := v0) (vs := vs) q0 q, f, d, e => by
    rw [List.map_cons, List.zip_cons_cons, List.reverse_cons, List.lookup_append]
    rw [List.zip_cons_cons, List.lookup_cons] at e
    by_cases h : f = g
    · subst h
      simp only [beq_self_eq_true] at e
      cases e
      have : ((fs.map Str.ofString).zip vs).reverse.lookup (Str.ofString f) = none := by
        refine List.lookup_eq_none_iff.mpr fun p hp => ?_
        have hm : p.1 ∈ fs.map Str.ofString := (List.of_mem_zip (List.mem_reverse.mp hp)).1
        have : Str.ofString f ≠ p.1 := fun z => (List.nodup_cons.mp nd).1 (z ▸ hm)
        simpa using this
      exact ⟨v0, by rw [this]; simp [List.lookup], q0⟩
    · have hb : (f == g) = false := by simpa using h
      rw [hb] at e
      obtain ⟨v, l, i⟩ := zip_xf (List.nodup_cons.mp nd).2 q f d e
      exact ⟨v, by rw [l]; rfl, i⟩
/-- raise C(e, ..) -/
theorem js_raise {c : String} {x : Str} {fs : List String} {C fI : Addr} {k : Nat} {fd : FuncData} {self : Str} {p pos' : Pos} (ex : x = Str.ofString c) (Tc : OexC T.X.K C) (iC : PySem.W.findIn T.X.K (.ref C) "__init__" = some (some (.ref fI))) (tI : PySem.W.typeIn T.X.K (.ref fI) = some (.type "function"))
    (G : FnOk T.X.prog T.X.w T.X.K T.X.mg T.X.base (L2.CX T.X.prog T.X.w) k fI fd (self :: fs.map Str.ofString) (spI C (fs.map Str.ofString))) (hr : Room (k + 1) T.X.A) (hb : Binds T.X.K fd (self :: fs.map Str.ofString) []) (tk : Tk T) (hc : T.X.calm = true)
    (hm : T.X.mg x = some (.ref C)) (nd : (fs.map Str.ofString).Nodup) (hsm : fs.length ≤ 1000) (ha : JA T (e :: es) fl) (hg : Gl T.X x := by rfl)
    (hdb : (x == ("__debug__" : Str)) = false := by decide) (he : starEach (e :: es) T.X.env = (false, eval e T.X.env) :: starEach es T.X.env := by rfl) (hpl : (backTo pos (starEach es T.X.env)).any (·.1) = false := by rfl) :
    JS T (.Raise (some (.Call (.Name x p) (e :: es) [] pos)) none pos') (sRaise c fs fl) := fun σ H m h ρ Dn F pp =>
  WS.of (ps_raise hc tk.t (pmk_oex Tc iC tI G hr hb .nil (passes_no rfl tk.t) hg hm wa_pa hdb he hpl)) (ha σ H m h ρ _ F (PostS.bindE F pp fun ds h1 vs H1 m1 r1 x1 q1 p1 => by
    cases z : decide (ds.length = fs.length) with
    | false => rw [z] at p1; exact p1.elim
    | true =>
      rw [z] at p1
      have hl : vs.length = fs.length := q1.length.trans (of_decide_eq_true z)
      refine ⟨by rw [hl]; exact hsm, fun a na => ⟨a, vs, by rw [List.append_nil], by rw [hl, List.length_map], upd_same, fun dx H' hdx ne ea ed hoth => ⟨rfl, dx, _, ea, ed, by rw [upd_ne ne] at hdx; exact hdx, ?_⟩⟩⟩
      have hdx1 : H1 dx = none := by rw [upd_ne ne] at hdx; exact hdx
      have eH : upd (del H' a) dx (.xd ((fs.map Str.ofString).zip vs).reverse) = upd H1 dx (.xd ((fs.map Str.ofString).zip vs).reverse) := by
        funext b
        by_cases h1 : b = dx
        · rw [h1, upd_same, upd_same]
        · rw [upd_ne h1, upd_ne h1]
          by_cases h2 : b = a
          · rw [h2, del_same, na]
          · rw [del_ne h2, hoth b h2 h1, upd_ne h2]
      rw [eH]
      have x2 := Ext.new (o := .xd ((fs.map Str.ofString).zip vs).reverse) r1 hdx1
      have r2 := r1.new (o := .xd ((fs.map Str.ofString).zip vs).reverse) hdx1
      exact p1 (.ref C) dx σ _ m1 ((F.step r1 x1).step r2 x2) x2 (by rw [← ex]; exact hm) ⟨_, upd_same, fun f d e => zip_xf nd (x2.isDs r1 q1) f d e⟩))
end
end DL

namespace DL
open PySem PySem.Spec PySem.Calls PyProof.Rows L2 TL
/-! ### isinstance of a caught error that has a dict -/
section
open PySem.W
variable {prog : Program} {w : World} {A : Around} {E : Value → Shared → Prop} {s : Shared} {K : Frag} {x D : Addr} {ox od : Obj}
theorem kin_classD {Q : Option Value → Shared → Prop} (C : ExcC K D) (X : K.In s.heap) (I : InstAt s.heap x ox D (some od)) (h : Q (some (.ref D)) { s with toks := s.toks + 1 }) : wpAny (model prog w) A (getAttr? (.ref x) "__class__") Q E s := by
  have fo : findObj K D (some od) "__class__" = some (.bind (.builtin "getset_descriptor.__get__") (.builtin "object.__class__")) :=
    findObj_data (by obtain ⟨cd, hc, _⟩ := any_some C.hd; rw [hc]; rfl) C.ha C.hn C.ht
  obtain ⟨hp, g, d, t, os⟩ := s
  have lt := I.type (M := model prog w)
  have la := looks_findIn (M := model prog w) X C.hg
  have lb := looks_findIn (M := model prog w) X C.hk
  have lo := looks_find (M := model prog w) X I fo
  have sb : Looks (model prog w) hp (isInstance (.ref x) (.type "BaseException")) true := lt.andThen (looks_subIn X C.hs)
  have n2 : (Value.builtin "BaseException.__getattribute__" == Value.builtin "object.__getattribute__") = false := by decide +kernel
  have n1 : (onTheHeap (Value.ref D) && Value.builtin "BaseException.__getattribute__" == Value.builtin "object.__getattribute__") = false := by rw [n2]; rfl
  unfold getAttr? getAttrBy? getAttrBy; refine wpAny_bind (wpAny_mkText (wpAny_bind (wpAny_attempt (wpAny_holding (wpAny_bind (lt.at (wpAny_bind (la.at ?_)))))))); show wpAny _ _ (if (onTheHeap (Value.ref D) && _) = true then _ else _) _ _ _
  rw [n1, if_neg Bool.false_ne_true]; unfold getAttrByItsOwn hookBefore; refine wpAny_bind ?_; rw [if_pos (show onTheHeap (Value.ref D) = true from rfl)]; refine lb.at ?_
  refine wpAny_bind (wpAny_attempt (wpAny_holding ?_)); unfold callGetattribute; rw [show (false && onTheHeap (Value.builtin "BaseException.__getattribute__")) = false from rfl, if_neg Bool.false_ne_true]; unfold boundAndCalled
  rw [PySem.F.excAttr_ValueError.ga.bind (.ref x)]; refine wpAny_bind (wpAny_pure ?_); show wpAny _ _ (call (.builtin "BaseException.__getattribute__") [.ref x, .str "__class__" t]) _ _ _
  refine wpAny_call (codeAny_call_builtin PySem.F.excAttr_ValueError.ga.plain PySem.F.entry_bexc_ga ?_)
  refine @check_slot (model prog w) _ _ ⟨hp, g, d, t + 1, os⟩ "BaseException.__getattribute__" "BaseException" "__getattribute__" (.ref x) [.str "__class__" t] [] _ (by decide +kernel) (by decide +kernel) sb (PySem.F.args_bexc_ga (.ref x) (.str "__class__" t)) ?_
  unfold Builtin.«object.__getattribute__»; refine wpAny_bind (wpAny_of_eq (a := ((Value.ref x : Value), [Value.str "__class__" t])) (by first | rfl | (simp only [slotArgs]; rfl)) ?_)
  refine wpAny_bind (wpAny_pure (wpAny_bind (lt.at (wpAny_bind (lo.at ?_))))); show wpAny _ _ (holding [Value.builtin "object.__class__"] (call (.builtin "getset_descriptor.__get__") [.builtin "object.__class__", .ref x, .ref D]) >>= ret) _ _ _
  refine wpAny_bind (wpAny_holding (wpAny_call (class_get (s := ⟨hp, g, d, t + 1, os⟩) (ox := ox) (od := some od) X I C.hm ?_))); refine wpAny_pure ?_; show wpAny _ _ (handedOut (.ref D)) _ _ _
  rw [handedOut_of (v := .ref D) rfl]; first | exact wpAny_pure (wpAny_pure h) | exact wpAny_pure h | exact wpAny_pure (wpAny_bind (wpAny_pure (wpAny_pure h)))
theorem kitx_excD (C : ExcC K D) : KitX K (.ref x) (.ref D) (fun h => ∃ ox od, InstAt h x ox D (some od)) := by
  obtain ⟨cd, hc, _⟩ := any_some C.hd
  have key : ∃ c' d' sl', K.lookup D = some ⟨c', d', .cls cd, sl'⟩ := by
    unfold clsIn at hc
    split at hc
    · rename_i c' d' cd' sl' ho; cases hc; exact ⟨c', d', sl', ho⟩
    · cases hc
  obtain ⟨c', d', sl', ho⟩ := key
  refine ⟨fun _ _ _ ⟨_, _, I⟩ => I.type, fun _ _ X _ A' Q' E' s' k q => ?_, fun h tp dd its n sl X htp => ?_, fun X ⟨_, _, I⟩ k => kin_classD C X I k⟩
  · unfold isType loadHead; exact wpAny_bind (wpAny_loadPart (k _ _ (X _ _ ho)) (wpAny_pure q))
  · refine Bool.eq_false_iff.mpr fun q => ?_
    have e : D = tp := Value.ref.inj (beq_iff_eq.mp q)
    subst e
    cases (X _ _ ho).symm.trans htp
end
/-- isinstance(e, c) in the suite -/
theorem call_isD {X : Cx} {a D dd : Addr} {oe : Obj} {pn : List (Addr × Obj)} (C : ExcC X.K D) (hz : Zc (.ref D) (some dd) oe) (hf : ∃ vs, oe.data = .fields vs) :
    CallR (X.suite a ((a, oe) :: pn)) (.builtin "isinstance") (fun xs H Q => (∃ ys, H dd = some (.xd ys)) ∧ rIsE X.K D a xs H Q) := by
  intro pins s σ H xs us Q I r h
  obtain ⟨⟨ys, hd⟩, c, cv, b, rfl, hcv, e, q⟩ := h
  cases r with
  | cons rx rr =>
    cases rr with
    | cons rt rr =>
      cases rr
      cases rx
      have ec := hcv _ rt
      subst ec
      obtain ⟨hget, _⟩ := I.pin (a, oe) (List.mem_append.mpr (.inl List.mem_cons_self))
      obtain ⟨vs, hv⟩ := hf
      have hx : ObjOk X.prog X.w H s.heap dd (.xd ys) := I.hok dd _ hd
      obtain ⟨mA, hns, _⟩ := hx
      obtain ⟨od, ho, _⟩ := lookIn_ns hns
      have J : PySem.W.InstAt s.heap a oe D (some od) := ⟨hget, hz.1, by unfold PySem.W.notCls; rw [hv] <;> rfl, by rw [hz.2]; exact ho⟩
      exact PySem.W.kia_one (kitx_excD C) I.kIn ⟨_, _, J⟩ e (fun z => nomatch z) fun tk => ⟨.bl b, H, I.kept (t' := tk) fun _ _ z => z, rfl, q⟩
end DL

namespace DL
open PySem PySem.Spec PySem.Calls PyProof.Rows L2 TL
/-! ### try .. except C as n: .. -/
abbrev Xs := List (String × D)
def Tx.tr (T : Tx) (W : WX) (pn : List (Addr × Obj)) (xe : Value → Shared → Prop) : Tx := ⟨T.X.tr pn xe, W, T.xi⟩
def Tx.suite (T : Tx) (a : Addr) (oe : Obj) (pn : List (Addr × Obj)) (i : Nat) (cls : Value) (dd : Addr) (c : String) (fs : Xs) : Tx := ⟨T.X.suite a ((a, oe) :: pn), fun _ _ _ _ => False, some ⟨i, a, cls, dd, c, fs⟩⟩
/-- the body, in each wish -/
def BodyOk (T : Tx) (body : List Stmt) (fb : SS) : Prop := ∀ (W : WX) (pn : List (Addr × Obj)) (xe : Value → Shared → Prop), Tk (T.tr W pn xe) → Pw (T.tr W pn xe) → JSs (T.tr W pn xe) body fb
/-- the suite, for each exception -/
def SuiteOk (T : Tx) (i : Nat) (cs : String → Option Bool) (suite : List Stmt) (gs : String → Xs → SS) : Prop := ∀ (a : Addr) (oe : Obj) (pn : List (Addr × Obj)) (cls : Value) (dd : Addr) (c : String) (fs : Xs), cs c = some true → T.X.mg (Str.ofString c) = some cls → Zc cls (some dd) oe → (∃ vs, oe.data = .fields vs) → JSs (T.suite a oe pn i cls dd c fs) suite (gs c fs)
/-- what the clause takes -/
structure Takes1 (T : Tx) (x : Str) (cs : String → Option Bool) : Prop where
  ex : ∃ cv, Names T.X x cv ∧ ∀ (c : String) (b : Bool) (cls : Value), cs c = some b → T.X.mg (Str.ofString c) = some cls → PySem.W.exmOne T.X.K cls cv = some b
/-- the name is unbound behind the suite -/
def unb (i : Nat) (r : Ss) : Ss := match r with
  | .nx ρ h => .nx (stv ρ i .u) h
  | .bk ρ h => .bk (stv ρ i .u) h
  | .ct ρ h => .ct (stv ρ i .u) h
  | .rt d h => .rt d h
  | _ => .no
def sTryAs (i : Nat) (cs : String → Option Bool) (fb : SS) (gs : String → Xs → SS) : SS := fun ρ h => match fb ρ h with
  | .xc c fs ρ' h' => match cs c with
    | some true => unb i (gs c fs (stv ρ' i .u) h')
    | some false => .xc c fs ρ' h'
    | none => .no
  | r => r
section
variable {T : Tx} {body suite : List Stmt} {fb : SS} {gs : String → Xs → SS} {pos pos' np : Pos} {i : Nat} {x n : Str} {b₀ : Stmt} {cs : String → Option Bool}
theorem Fits.unset {m : List Addr} {h : Mh} {H : Hp} {σ : L2.St} {ρ : List D} (F : Fits T m ρ h σ H) (i : Nat) : Fits ⟨T.X, T.W, none⟩ m (stv ρ i .u) h (σ.set i none) H := F.wipe [i]
theorem js_try_as (hs : T.X.stack = T.X.env :: T.X.outer) (hf : T.X.env.frame = some T.X.env.locals) (hN : T.X.N.Nodup) (hln : T.X.env.kindOf n = some .local) (hc : Takes1 T x cs) (tk : Tk T) (hb : BodyOk T body fb) (hsu : SuiteOk T i cs (b₀ :: suite) gs) (hi : T.X.N[i]? = some n := by rfl) (hx : T.xi = none := by rfl) :
    JS T (.Try body [.ExceptHandler (some (.Name x np)) (some n) (b₀ :: suite) pos'] [] [] pos) (sTryAs i cs fb gs) := fun σ H m h ρ Dn F p => by
  obtain ⟨cv, hnm, hcs⟩ := hc.ex
  refine WS.of (ps_try_as (c := cv) (Wout := T.W) (tb := fun W => fun Dn σ H => ∀ (pn : List (Addr × Obj)) (xe : Value → Shared → Prop), Takes (T.X.tr pn xe) W → PassesOwn (model T.X.prog T.X.w) T.X.A T.X.env xe → WSs (T.X.tr pn xe) body Dn σ H)
    (ts := fun a cls d => fun Dn σ H => ∀ (oe : Obj) (pn : List (Addr × Obj)), Zc cls d oe → (∃ vs, oe.data = .fields vs) → WSs (T.X.suite a ((a, oe) :: pn)) (b₀ :: suite) Dn σ H)
    hs hf hN hi hln hnm tk.t (fun W pn xe t1 t2 => ⟨fun pins s σ H D I h => (h pn xe t1 t2).run pins s I⟩) (fun a oe cls d pn z1 z2 => ⟨fun pins s σ H D I h => (h oe pn z1 z2).run pins s I⟩)) ?_
  intro pn xe t1 t2
  refine hb _ pn xe ⟨t1⟩ ⟨t2⟩ σ H m h ρ Dn ⟨F.rep, F.env, F.exc, F.len⟩ ?_
  unfold sTryAs at p
  cases z : fb ρ h with
  | nx ρ' h' => rw [z] at p; exact fun σ' H' m' F' x' => p σ' H' m' ⟨F'.rep, F'.env, F'.exc, F'.len⟩ x'
  | rt d h' => rw [z] at p; exact p
  | bk ρ' h' => rw [z] at p; exact fun σ' H' m' F' x' => p σ' H' m' ⟨F'.rep, F'.env, F'.exc, F'.len⟩ x'
  | ct ρ' h' => rw [z] at p; exact fun σ' H' m' F' x' => p σ' H' m' ⟨F'.rep, F'.env, F'.exc, F'.len⟩ x'
  | no => rw [z] at p; exact p
  | xc c fs ρ' h' =>
    rw [z] at p
    simp only at p
    intro cls dd σ' H' m' F' x' hm hxf
    cases zc : cs c with
    | none => rw [zc] at p; exact p.elim
    | some b =>
      rw [zc] at p
      refine ⟨b, hcs c b cls zc hm, fun eb a na => ?_, fun eb => ?_⟩
      · subst eb
        intro oe pn2 z1 z2
        have F0 : Fits T m' ρ' h' σ' H' := ⟨F'.rep, F'.env, F'.exc, F'.len⟩
        have hil : i < σ'.length ∨ ¬ i < σ'.length := Nat.lt_or_ge i σ'.length |>.imp id Nat.not_lt.mpr
        have Fs : i < σ'.length → Fits (T.suite a oe pn2 i cls dd c fs) m' (stv ρ' i .u) h' (σ'.set i (some (.ref a))) H' := fun hlt =>
          ⟨F0.rep, fun j d e ne => by
            rw [stv_at] at e
            split at e
            · cases e; exact absurd rfl ne
            · rename_i hne
              obtain ⟨v, e1, q⟩ := F0.env j d e ne
              have hj : j < ρ'.length := (List.getElem?_eq_some_iff.mp e).1
              exact ⟨v, by rw [List.getElem?_set_ne (fun z => hne ⟨z, z ▸ hj⟩)]; exact e1, q⟩,
           fun y ey => by cases ey; exact ⟨List.getElem?_set_self hlt, hxf⟩, by rw [stv_len, List.length_set]; exact F0.len⟩
        rcases hil with hlt | hge
        · have p1 := PostS.step x' p
          refine hsu a oe pn2 cls dd c fs zc hm z1 z2 (σ'.set i (some (.ref a))) H' m' h' (stv ρ' i .u) _ (Fs hlt) ?_
          revert p1
          generalize gs c fs (stv ρ' i .u) h' = r
          intro p1
          cases r with
          | nx ρ2 h2 => exact fun σ2 H2 m2 F2 x2 => p1 (σ2.set i none) H2 m2 (by have := F2.unset i; exact ⟨this.rep, this.env, (fun y e => by rw [hx] at e; cases e), this.len⟩) x2
          | bk ρ2 h2 => exact fun σ2 H2 m2 F2 x2 => p1 (σ2.set i none) H2 m2 (by have := F2.unset i; exact ⟨this.rep, this.env, (fun y e => by rw [hx] at e; cases e), this.len⟩) x2
          | ct ρ2 h2 => exact fun σ2 H2 m2 F2 x2 => p1 (σ2.set i none) H2 m2 (by have := F2.unset i; exact ⟨this.rep, this.env, (fun y e => by rw [hx] at e; cases e), this.len⟩) x2
          | rt d h2 => exact p1
          | xc c2 fs2 ρ2 h2 => exact p1.elim
          | no => exact p1.elim
        · refine .mk fun pins s I => ?_
          refine absurd ?_ hge
          have hl := I.len
          rw [List.length_set] at hl
          rw [hl]
          exact (List.getElem?_eq_some_iff.mp hi).1
      · subst eb
        exact p cls dd σ' H' m' ⟨F'.rep, F'.env, F'.exc, F'.len⟩ x' hm hxf
/-! in the suite -/
section
variable {a : Addr} {oe : Obj} {pn : List (Addr × Obj)} {cls : Value} {dd : Addr} {c : String} {fs : Xs}
/-- e.f -/
def eXf (fs : Xs) (f : String) : EE := fun _ h => match fs.lookup f with
  | some d => .ok d h
  | none => .no
theorem je_xf {f : String} {fn : Str} {C : Addr} (ef : fn = Str.ofString f) (Tc : XfC T.X.K C) (hcl : cls = .ref C) (hno : PySem.W.findIn T.X.K (.ref C) fn = some none) (hz : Zc cls (some dd) oe) (hfv : ∃ vs, oe.data = .fields vs) (hN : T.X.N[i]? = some n) (hv : Vis T.X.env.scope n) (hd : (n == ("__debug__" : Str)) = false) (hcd : (n == ("__classdict__" : Str)) = false)
    (hbase : attributeBase (.Name n np) fn T.X.env (eval (.Name n np) T.X.env) = eval (.Name n np) T.X.env := by rfl) :
    JE (T.suite a oe pn i cls dd c fs) (.Attribute (.Name n np) fn pos) (eXf fs f) := fun σ H m h ρ Q F p => by
  obtain ⟨e1, ys, e2, e3⟩ := F.exc _ rfl
  unfold eXf at p
  cases z : fs.lookup f with
  | none => rw [z] at p; exact p.elim
  | some d =>
    rw [z] at p
    obtain ⟨v, l, q⟩ := e3 f d z
    refine WE.of (pe_xf (X := T.X) (n := fn) Tc hno hz hfv (pe_var (X := T.X.suite a ((a, oe) :: pn)) hN hv hd hcd) hbase) ?_
    exact ⟨V.ref a, e1, rfl, hcl, dd, ys, v, rfl, e2, by rw [ef]; exact l, p.here F.rep q⟩
/-- isinstance(e, C) -/
def eXi (b : Option Bool) : EE := fun _ h => match b with
  | some b => .ok (.bl b) h
  | none => .no
theorem je_xi {y z : Str} {py pz pe : Pos} {C C2 : Addr} {b : Option Bool} (Tc : ExcC T.X.K C) (hcl : cls = .ref C) (hk : ∀ r, b = some r → PySem.W.kitOne T.X.K (.ref C) (.ref C2) = some r) (hz : Zc cls (some dd) oe) (hfv : ∃ vs, oe.data = .fields vs) (hN : T.X.N[i]? = some n) (hv : Vis T.X.env.scope n) (hd : (n == ("__debug__" : Str)) = false) (hcd : (n == ("__classdict__" : Str)) = false)
    (hy : T.X.mg y = none) (by_ : bootBuiltins y = some (.builtin "isinstance")) (hC2 : T.X.mg z = some (.ref C2)) (gy : Gl T.X y := by rfl) (gz : Gl T.X z := by rfl) (ny : y ≠ "__name__" := by decide) (dy : (y == ("__debug__" : Str)) = false := by decide) (dz : (z == ("__debug__" : Str)) = false := by decide)
    (he : starEach [.Name n pe, .Name z pz] T.X.env = (false, eval (.Name n pe) T.X.env) :: starEach [.Name z pz] T.X.env := by rfl) (he2 : starEach [.Name z pz] T.X.env = [(false, eval (.Name z pz) T.X.env)] := by rfl) (hpl : (backTo pos (starEach [.Name z pz] T.X.env)).any (·.1) = false := by rfl) :
    JE (T.suite a oe pn i cls dd c fs) (.Call (.Name y py) [.Name n pe, .Name z pz] [] pos) (eXi b) := fun σ H m h ρ Q F p => by
  obtain ⟨e1, ys, e2, e3⟩ := F.exc _ rfl
  unfold eXi at p
  cases b with
  | none => exact p.elim
  | some r =>
    subst hcl
    refine WE.of (pe_callB (X := T.X.suite a ((a, oe) :: pn)) (call_isD (X := T.X) Tc hz hfv) gy hy by_ (pa_cons (pe_var (X := T.X.suite a ((a, oe) :: pn)) hN hv hd hcd) (pa_cons (pe_glob (X := T.X.suite a ((a, oe) :: pn)) (v := .ref C2) gz hC2 rfl dz) pa_nil he2) he) ny dy he hpl) ?_
    exact ⟨V.ref a, e1, ⟨ys, e2⟩, V.ref C2, .ref C2, r, rfl, fun u hu => hu, hk r rfl, p.here F.rep (.bl r)⟩
end
end
end DL

namespace DL
open PySem PySem.Spec PyProof.Rows L2 TL
/-! ### what the head tells: constants -/
mutual
def relD (K : PySem.W.Frag) : D → Value → Bool
  | .non, .none => true
  | .bl b, .bool c => b == c
  | .int i, .int j _ => decide (i = j)
  | .str s, .str y _ => decide (y = ⟨s.toArray⟩)
  | .tup ds, .ref a => (match K.lookup a with
    | some ⟨.type c, _, .seq its _, _⟩ => decide (c = "tuple") && (decide (its.size ≤ sizeLine) && relDs K ds its.toList)
    | _ => false)
  | _, _ => false
def relDs (K : PySem.W.Frag) : List D → List Value → Bool
  | [], [] => true
  | d :: ds, u :: us => relD K d u && relDs K ds us
  | _, _ => false
end
section
variable {K : PySem.W.Frag} {w : World}
mutual
theorem relD_ok : ∀ {d : D} {u : Value}, relD K d u = true → ∃ v, RelV v u ∧ ∀ H L m, IsD K w H L m v d
  | .non, u, h => by
    cases u with
    | none => exact ⟨.non, rfl, fun _ _ _ => .non⟩
    | _ => cases h
  | .bl b, u, h => by
    cases u with
    | bool c =>
      have e : b = c := eq_of_beq (show (b == c) = true from h)
      subst e
      exact ⟨.bl b, rfl, fun _ _ _ => .bl b⟩
    | _ => cases h
  | .int i, u, h => by
    cases u with
    | int j t =>
      have e : i = j := of_decide_eq_true h
      subst e
      exact ⟨.int i, ⟨t, rfl⟩, fun _ _ _ => .int i⟩
    | _ => cases h
  | .str s, u, h => by
    cases u with
    | str y t =>
      have e : y = ⟨s.toArray⟩ := of_decide_eq_true h
      subst e
      exact ⟨.str ⟨s.toArray⟩, ⟨t, rfl⟩, fun _ _ _ => .str s⟩
    | _ => cases h
  | .tup ds, u, h => by
    cases u with
    | ref a =>
      have h1 : (match K.lookup a with
        | some ⟨.type c, _, .seq its _, _⟩ => decide (c = "tuple") && (decide (its.size ≤ sizeLine) && relDs K ds its.toList)
        | _ => false) = true := h
      cases q : K.lookup a with
      | none => rw [q] at h1; cases h1
      | some o =>
        obtain ⟨oc, od, dt, osl⟩ := o
        rw [q] at h1
        cases oc with
        | type c =>
          cases dt with
          | seq its n =>
            obtain ⟨h2, h3⟩ := Bool.and_eq_true_iff.mp h1
            obtain ⟨h4, h5⟩ := Bool.and_eq_true_iff.mp h3
            obtain ⟨vs, r, i⟩ := relDs_ok h5
            exact ⟨.ref a, rfl, fun H L m => .tup (.inr ⟨_, its, n, q, congrArg Value.type (of_decide_eq_true h2), rfl, of_decide_eq_true h4, r⟩) (i H L m)⟩
          | _ => cases h1
        | _ => cases dt <;> cases h1
    | _ => cases h
  | .u, u, h => by cases u <;> cases h
  | .lst ds, u, h => by cases u <;> cases h
  | .dic ds, u, h => by cases u <;> cases h
  | .ref n, u, h => by cases u <;> cases h
  | .scr n, u, h => by cases u <;> cases h
theorem relDs_ok : ∀ {ds : List D} {us : List Value}, relDs K ds us = true → ∃ vs, Vals vs us ∧ ∀ H L m, IsDs K w H L m vs ds
  | [], [], _ => ⟨[], .nil, fun _ _ _ => .nil⟩
  | [], _ :: _, h => by cases h
  | _ :: _, [], h => by cases h
  | d :: ds, u :: us, h => by
    obtain ⟨h1, h2⟩ := Bool.and_eq_true_iff.mp (show (relD K d u && relDs K ds us) = true from h)
    obtain ⟨v, r, i⟩ := relD_ok h1
    obtain ⟨vs, rs, is⟩ := relDs_ok h2
    exact ⟨v :: vs, .cons r rs, fun H L m => .cons (i H L m) (is H L m)⟩
end
end
/-- the module's name x stands for d -/
def glB (K : PySem.W.Frag) (x : Str) (d : D) : Bool := match PySem.W.nsIn K mainGlobals x with
  | some (some u) => relD K d u
  | _ => false
theorem glB_ok {K : PySem.W.Frag} {w : World} {h : Heap} {mg : Str → Option Value} {x : Str} {d : D} (X : K.In h) (G : h.Ns mainGlobals mg) (c : glB K x d = true) : GlobD K w mg x d := by
  unfold glB at c
  cases q : PySem.W.nsIn K mainGlobals x with
  | none => rw [q] at c; cases c
  | some r =>
    cases r with
    | none => rw [q] at c; cases c
    | some u =>
      rw [q] at c
      obtain ⟨v, r, i⟩ := relD_ok (w := w) c
      exact ⟨v, u, PySem.W.mg_of X G q, r, fun H m h => i H _ m⟩
/-! a dict with text keys -/
def entB (K : PySem.W.Frag) : List (List Nat × D) → List DictEntry → Bool
  | [], [] => true
  | (s, d) :: r, e :: es => (match e.key with
    | .str y _ => decide (y = ⟨s.toArray⟩)
    | _ => false) && (relD K d e.val && entB K r es)
  | _, _ => false
def tbB (K : PySem.W.Frag) (x : Str) (kds : List (List Nat × D)) : Bool := match K.lookup (He.ga K x) with
  | some ⟨_, _, .dict es _, _⟩ => entB K kds es.toList
  | _ => false
def asK (kds : List (List Nat × D)) : List (DK × D) := kds.map fun p => (.inr p.1, p.2)
theorem ent_ok {K : PySem.W.Frag} {w : World} : ∀ {kds : List (List Nat × D)} {es : List DictEntry}, entB K kds es = true → es.any (·.refKey) = false ∧ ∃ kvs : List (Key × V), (∀ H L m, IsKs K w H L m kvs (asK kds)) ∧ (∀ i : Int, valV kvs (.inl i) = none) ∧ ∀ z : Str, RelO (valV kvs (.inr z)) ((es.find? (·.key.isStr z)).map (·.val))
  | [], [], _ => ⟨rfl, [], fun _ _ _ => .nil, fun _ => rfl, fun _ => trivial⟩
  | [], _ :: _, h => by cases h
  | _ :: _, [], h => by cases h
  | (s, d) :: r, e :: es, h => by
    obtain ⟨h1, h2⟩ := Bool.and_eq_true_iff.mp (show ((match e.key with
      | .str y _ => decide (y = ⟨s.toArray⟩)
      | _ => false) && (relD K d e.val && entB K r es)) = true from h)
    obtain ⟨h3, h4⟩ := Bool.and_eq_true_iff.mp h2
    obtain ⟨v, rv, iv⟩ := relD_ok (w := w) h3
    obtain ⟨n1, kvs, ik, ii, iz⟩ := ent_ok (w := w) h4
    cases ek : e.key with
    | str y t =>
      rw [ek] at h1
      have ey : y = ⟨s.toArray⟩ := of_decide_eq_true h1
      subst ey
      refine ⟨?_, (.inr ⟨s.toArray⟩, v) :: kvs, fun H L m => .cons (k := .inr s) (iv H L m) (ik H L m), fun i => ?_, fun z => ?_⟩
      · rw [List.any_cons, n1, Bool.or_false]
        unfold DictEntry.refKey
        rw [ek]
      · rw [valV_neg (by simp)]; exact ii i
      · rw [List.find?_cons]
        by_cases hz : (⟨s.toArray⟩ : Str) = z
        · subst hz
          rw [valV_pos rfl, ek]
          simp only [Value.isStr, beq_self_eq_true]
          exact rv
        · rw [valV_neg (by simpa using hz), ek]
          have : ((Value.str ⟨s.toArray⟩ t).isStr z) = false := by simpa [Value.isStr] using hz
          rw [this]
          exact iz z
    | _ => rw [ek] at h1; cases h1
theorem tbB_ok {K : PySem.W.Frag} {w : World} {h : Heap} {mg : Str → Option Value} {x : Str} {kds : List (List Nat × D)} (X : K.In h) (G : h.Ns mainGlobals mg) (hm : mg x = some (.ref (He.ga K x))) (kd : ∃ es n, KDict K w (He.ga K x) es n) (c : tbB K x kds = true) : GlobD K w mg x (.dic (asK kds)) := by
  obtain ⟨es, n, kd⟩ := kd
  unfold tbB at c
  rw [kd.at_] at c
  obtain ⟨n1, kvs, ik, ii, iz⟩ := ent_ok (w := w) c
  refine ⟨.ref (He.ga K x), _, hm, rfl, fun H m h => .dic (.inr ⟨es, n, kd, ii, fun z => ?_⟩) (ik H _ m)⟩
  refine ⟨(es.toList.find? (·.key.isStr z)).map (·.val), ?_, iz z⟩
  unfold PySem.W.nsIn
  rw [kd.at_]
  simp only
  cases q : es.toList.find? (·.key.isStr z) with
  | some e => rfl
  | none => simp only [n1]; rfl
end DL

namespace DL
open PySem PySem.Spec PyProof.Rows L2 TL
/-! ### what the head tells: own errors -/
abbrev FnI : Type := Option (Str × Str × Arguments × FuncBody × Scope × Addr × List Str × Addr)
/-- a class x with its __init__ -/
structure InD where
  x : Str
  name : Str
  qual : Str
  params : Arguments
  body : List Stmt
  scope : Scope
  fs : List Str
def iAd (K : PySem.W.Frag) (x : Str) : Addr := He.ma K (He.ga K x) "__init__"
def fnI (K : PySem.W.Frag) (x : Str) : FnI := match K.lookup (iAd K x) with
  | some ⟨_, _, .func fd, _⟩ => some (fd.name, fd.qualname, fd.params, fd.body, fd.scope, fd.globals, fd.closure.map (·.1), fd.builtins)
  | _ => none
def InD.val (d : InD) : FnI := some (d.name, d.qual, d.params, .stmts d.body, d.scope, mainGlobals, ["__class__"], builtinsNs)
def clB (K : PySem.W.Frag) (C : Addr) : Bool := match K.lookup C with
  | some ⟨.type t, _, .cls cd, sl⟩ => decide (t = "type") && ((match cd.mro with
    | .ref C' :: bm => decide (C' = C) && PySem.HandSPX.refsVE bm
    | _ => false) && (cd.hasDict && (!cd.hasDel && (match sl.toList with
    | [_, _, _, _, some (.builtin n), _] => decide (n = "ValueError.__new__")
    | _ => false))))
  | _ => false
theorem clB_ok {K : PySem.W.Frag} {C : Addr} (h : clB K C = true) : ∃ nm q N bs bm sn sub ab col dd k0 k1 k2 k3 k5, K.lookup C = some (excClassObj nm q C N bs bm true sn sub ab col dd k0 k1 k2 k3 k5 "ValueError.__new__") ∧ PySem.HandSPX.refsVE bm = true := by
  unfold clB at h
  split at h
  · rename_i t dd cd sl q
    obtain ⟨h1, h2⟩ := Bool.and_eq_true_iff.mp h
    obtain ⟨h3, h4⟩ := Bool.and_eq_true_iff.mp h2
    obtain ⟨h5, h6⟩ := Bool.and_eq_true_iff.mp h4
    obtain ⟨h7, h8⟩ := Bool.and_eq_true_iff.mp h6
    have et : t = "type" := of_decide_eq_true h1
    obtain ⟨nm, bs, mro, ns, qn, hd, sn, sb, ab, col, del⟩ := cd
    dsimp only at h3 h5 h7
    split at h3
    · rename_i C' bm
      obtain ⟨h9, h10⟩ := Bool.and_eq_true_iff.mp h3
      have eC : C' = C := of_decide_eq_true h9
      split at h8
      · rename_i k0 k1 k2 k3 n k5 hs
        have en : n = "ValueError.__new__" := of_decide_eq_true h8
        have hdl : del = false := by simpa using h7
        subst et eC en hdl h5
        refine ⟨nm, qn, ns, bs, bm, sn, sb, ab, col, dd, k0, k1, k2, k3, k5, ?_, h10⟩
        rw [q]
        have : sl = #[k0, k1, k2, k3, some (.builtin "ValueError.__new__"), k5] := by
          apply Array.toList_inj.mp; rw [hs]
        rw [this]
      · cases h8
    · cases h3
  · cases h
def eqB (a b : Option (Option Value)) : Bool := decide (a = b)
def InD.ok (P : Program) (K : PySem.W.Frag) (d : InD) : Bool :=
  let C := He.ga K d.x
  (match K.lookup (iAd K d.x) with
  | some ⟨_, _, .func fd, _⟩ => (match fd.code with
    | .ref cda => PySem.W.codeIn K (.ref cda) d.qual && (match K.lookup cda with
      | some ⟨_, _, .fields vs, _⟩ => (match (vs[2]? : Option Value) with
        | some (Value.str file _) => (P.main.file : Str) == file
        | _ => false)
      | _ => false)
    | _ => false) && ((match fd.closure with
    | [(_, cc)] => (match K.lookup cc with
      | some ⟨_, _, .cell (some (.ref D)), _⟩ => decide (D = C)
      | _ => false)
    | _ => false) && (match fd.defaults with
    | .none => true
    | _ => false))
  | _ => false) &&
  (decide (PySem.W.nsIn K cStatics "thirdparty.any" = some none) && (decide (PySem.W.ks_superIn K C C "__init__" = some (some (.builtin "ValueError.__init__"))) &&
  (decide (PySem.W.subIn K (.ref C) (.type "ValueError") = some true) && (decide (PySem.W.mroIn K C (.ref C) = some true) && (clB K C &&
  (decide (PySem.W.findIn K (.ref C) "__setattr__" = some (some (.builtin "object.__setattr__"))) && (decide (PySem.W.subIn K (.ref C) (.type "BaseException") = some true) && (decide (PySem.W.typeIn K (.ref C) = some (.type "type")) && (PySem.W.keepIn K (.ref C) &&
  (decide (PySem.W.findIn K (.ref C) "__init__" = some (some (.ref (iAd K d.x)))) && (decide (PySem.W.typeIn K (.ref (iAd K d.x)) = some (.type "function")) && (L2.xfB K C &&
  (decide (PySem.W.findIn K (.ref C) "__class__" = some (some (.builtin "object.__class__"))) && (decide (PySem.W.specialIn K (.builtin "object.__class__") "__get__" = some (some (.builtin "getset_descriptor.__get__"))) && (decide (PySem.W.takesIn K (.builtin "object.__class__") = some true) && (decide (PySem.W.mroIn K C (.type "object") = some true) &&
  ((d.fs.all fun f => decide (PySem.W.findIn K (.ref C) f = some none)) && decide (PySem.W.nsIn K mainGlobals d.x = some (some (.ref C))))))))))))))))))))
/-- all that is told of an own error -/
structure ErrD (P : Program) (K : PySem.W.Frag) (d : InD) (fd : FuncData) : Prop where
  ini : InitD P K d.name d.qual d.params d.body d.scope (He.ga K d.x) (iAd K d.x) fd
  iC : PySem.W.findIn K (.ref (He.ga K d.x)) "__init__" = some (some (.ref (iAd K d.x)))
  tI : PySem.W.typeIn K (.ref (iAd K d.x)) = some (.type "function")
  xf : XfC K (He.ga K d.x)
  exc : ExcC K (He.ga K d.x)
  hno : ∀ f ∈ d.fs, PySem.W.findIn K (.ref (He.ga K d.x)) f = some none
  ns : PySem.W.nsIn K mainGlobals d.x = some (some (.ref (He.ga K d.x)))
  fn : ∃ (kV doc pm : Value) (an : Option Addr) (cda : Addr) (ct : Value) (cc : Addr), fd = PySem.W.ksFn d.name d.qual d.params d.body d.scope .none kV doc pm an (.ref cda) ct cc
theorem InD.err {P : Program} {K : PySem.W.Frag} {d : InD} (e : fnI K d.x = d.val) (c : d.ok P K = true) : ∃ fd, ErrD P K d fd := by
  unfold InD.ok at c
  simp only [Bool.and_eq_true, decide_eq_true_eq, List.all_eq_true] at c
  obtain ⟨c0, c1, c2, c3, c4, c5, c6, c7, c8, c9, c10, c11, c12, c13, c14, c15, c16, c17, c18⟩ := c
  unfold fnI at e
  cases q : K.lookup (iAd K d.x) with
  | none => rw [q] at e; cases e
  | some o =>
    obtain ⟨oc, od, dt, osl⟩ := o
    rw [q] at e c0
    cases dt with
    | func fd =>
      obtain ⟨n1, n2, n3, n4, n5, n6, n7, n8, n9, n10, n11, n12, n13, n14, n15⟩ := fd
      have e2 : (some (n1, n2, n3, n4, n5, n6, n7.map (·.1), n15) : FnI) = some (d.name, d.qual, d.params, FuncBody.stmts d.body, d.scope, mainGlobals, [("__class__" : Str)], builtinsNs) := e
      simp only [Option.some.injEq, Prod.mk.injEq] at e2
      obtain ⟨h1, h2, h3, h4, h5, h6, h7, h8⟩ := e2
      subst h1 h2 h3 h4 h5 h6 h8
      simp only [Bool.and_eq_true] at c0
      obtain ⟨ca, cb, cc0⟩ := c0
      cases n13 with
      | ref cda =>
        simp only [Bool.and_eq_true] at ca
        obtain ⟨ca1, ca2⟩ := ca
        cases qc : K.lookup cda with
        | none => rw [qc] at ca2; cases ca2
        | some o2 =>
          obtain ⟨occ, odc, dtc, oslc⟩ := o2
          rw [qc] at ca2
          cases dtc with
          | fields vs =>
            simp only at ca2
            cases qv : vs[2]? with
            | none => rw [qv] at ca2; cases ca2
            | some v =>
              rw [qv] at ca2
              cases v with
              | str file tf =>
                cases n7 with
                | nil => cases cb
                | cons p r =>
                  cases r with
                  | cons _ _ => cases cb
                  | nil =>
                    obtain ⟨pn, cc⟩ := p
                    have hpn : pn = ("__class__" : Str) := by simpa using h7
                    subst hpn
                    simp only at cb
                    cases qk : K.lookup cc with
                    | none => rw [qk] at cb; cases cb
                    | some o3 =>
                      obtain ⟨ock, odk, dtk, oslk⟩ := o3
                      rw [qk] at cb
                      cases dtk with
                      | cell v =>
                        cases v with
                        | none => cases cb
                        | some v =>
                          cases v with
                          | ref D0 =>
                            have hD : D0 = He.ga K d.x := by simpa using cb
                            subst hD
                            cases n8 with
                            | none =>
                              exact ⟨_, ⟨⟨oc, od, .none, n9, n10, n11, n12, cda, n14, osl, cc, occ, odc, vs, oslc, file, tf, ock, odk, oslk, rfl, q, ca1, ⟨qc, qv, ca2⟩, qk⟩, c1, c2, c3, c4, ⟨clB_ok c5, c6, c7, c8, c9⟩⟩, c10, c11, L2.xfB_ok c12,
                                ⟨(L2.xfB_ok c12).ga, (L2.xfB_ok c12).gg, c7, (L2.xfB_ok c12).hdC, c13, c14, c15, c16⟩, c17, c18, ⟨n9, n10, n11, n12, cda, n14, cc, rfl⟩⟩
                            | _ => cases cc0
                          | _ => cases cb
                      | _ => cases cb
              | _ => cases ca2
          | _ => cases ca2
      | _ => cases ca
    | _ => cases e
/-- binding of its parameters -/
theorem ErrD.binds {P : Program} {K : PySem.W.Frag} {d : InD} {fd : FuncData} (E : ErrD P K d fd) {ps : List Str} (h : ∀ (kV doc pm : Value) (an : Option Addr) (cda : Addr) (ct : Value) (cc : Addr) (us : List Value), us.length = ps.length → bindArgs (PySem.W.ksFn d.name d.qual d.params d.body d.scope .none kV doc pm an (.ref cda) ct cc) ⟨us, []⟩ = pure (ps.zip us)) : Binds K fd ps [] := by
  obtain ⟨kV, doc, pm, an, cda, ct, cc, rfl⟩ := E.fn
  exact .all (h kV doc pm an cda ct cc)
/-! the classes' order -/
theorem mem_lk {β : Type} {c : String} {l : β} : ∀ {sup : List (String × β)}, sup.lookup c = some l → (c, l) ∈ sup
  | [], h => by cases h
  | (d, m) :: r, h => by
    rw [List.lookup_cons] at h
    by_cases e : c = d
    · subst e
      simp only [beq_self_eq_true] at h
      cases h
      exact List.mem_cons_self
    · have : (c == d) = false := by simpa using e
      rw [this] at h
      exact List.mem_cons_of_mem _ (mem_lk h)
def exT (sup : List (String × List String)) (c d : String) : Option Bool := (sup.lookup c).map fun l => l.contains d
def supB (K : PySem.W.Frag) (sup : List (String × List String)) (names : List String) : Bool := sup.all fun p => names.all fun d =>
  decide (PySem.W.exmOne K (.ref (He.ga K (Str.ofString p.1))) (.ref (He.ga K (Str.ofString d))) = some (p.2.contains d)) && decide (PySem.W.kitOne K (.ref (He.ga K (Str.ofString p.1))) (.ref (He.ga K (Str.ofString d))) = some (p.2.contains d))
theorem supB_ok {K : PySem.W.Frag} {sup : List (String × List String)} {names : List String} (h : supB K sup names = true) {c d : String} {b : Bool} (hd : d ∈ names) (e : exT sup c d = some b) :
    PySem.W.exmOne K (.ref (He.ga K (Str.ofString c))) (.ref (He.ga K (Str.ofString d))) = some b ∧ PySem.W.kitOne K (.ref (He.ga K (Str.ofString c))) (.ref (He.ga K (Str.ofString d))) = some b := by
  unfold exT at e
  cases q : sup.lookup c with
  | none => rw [q] at e; cases e
  | some l =>
    rw [q] at e
    cases e
    have hm : (c, l) ∈ sup := mem_lk q
    have := List.all_eq_true.mp (List.all_eq_true.mp h _ hm) d hd
    obtain ⟨h1, h2⟩ := Bool.and_eq_true_iff.mp this
    exact ⟨of_decide_eq_true h1, of_decide_eq_true h2⟩
/-! ### the Hook -/
abbrev AlI : Type := He.AlT × (Bool × List FnI)
def frI (n : Nat) (g : Addr → Option Obj) : PySem.W.Frag := He.frT g (cStatics :: He.asD g n)
def obsI (n : Nat) (fa : List He.Fa) (fn : List He.DefD) (ts : List He.Tab) (ins : List InD) (P : Program) (ex : PySem.W.Frag → Bool) (g : Addr → Option Obj) : AlI := (He.obsT fa fn ts (frI n g), ((ins.all fun d => d.ok P (frI n g)) && ex (frI n g), ins.map fun d => fnI (frI n g) d.x))
def valI (fn : List He.DefD) (ts : List He.Tab) (ins : List InD) (w : World) : AlI := (He.valT fn ts w, (true, ins.map InD.val))
structure SaysI (fa : List He.Fa) (fn : List He.DefD) (ts : List He.Tab) (ins : List InD) (P : Program) (ex : PySem.W.Frag → Bool) (w : World) (K : PySem.W.Frag) : Prop where
  t : He.SaysT fa fn ts w K
  more : ex K = true
  err : ∀ d ∈ ins, ∃ fd, ErrD P K d fd
theorem saysI_of {n : Nat} {fa : List He.Fa} {fn : List He.DefD} {ts : List He.Tab} {ins : List InD} {P : Program} {ex : PySem.W.Frag → Bool} {w : World} {h : Heap} (e : obsI n fa fn ts ins P ex h.get? = valI fn ts ins w) : SaysI fa fn ts ins P ex w (frI n h.get?) := by
  have e1 : He.obsT fa fn ts (frI n h.get?) = He.valT fn ts w := congrArg (fun z : AlI => z.1) e
  have e2 : ((ins.all fun d => d.ok P (frI n h.get?)) && ex (frI n h.get?)) = true := congrArg (fun z : AlI => z.2.1) e
  have e3 : (ins.map fun d => fnI (frI n h.get?) d.x) = ins.map InD.val := congrArg (fun z : AlI => z.2.2) e
  obtain ⟨h1, h2⟩ := Bool.and_eq_true_iff.mp e2
  refine ⟨e1, h2, fun d hd => ?_⟩
  obtain ⟨i, hi, ei⟩ := List.mem_iff_getElem.mp hd
  have e4 : (ins.map fun d => fnI (frI n h.get?) d.x)[i]? = (ins.map InD.val)[i]? := by rw [e3]
  rw [List.getElem?_map, List.getElem?_map, List.getElem?_eq_getElem hi, ei] at e4
  exact InD.err (Option.some.inj e4) (List.all_eq_true.mp h1 d hd)
def hookI (n : Nat) (fa : List He.Fa) (fn : List He.DefD) (ts : List He.Tab) (ins : List InD) (P : Program) (ex : PySem.W.Frag → Bool) : PySem.W.Hook where
  α := AlI
  obs := fun s => obsI n fa fn ts ins P ex s.heap.get?
  val := fun w => valI fn ts ins w
  says := fun w h => ∃ K : PySem.W.Frag, K.In h ∧ SaysI fa fn ts ins P ex w K
  of := fun _ _ e => ⟨_, He.frT_in, saysI_of e⟩
  keeps := fun _ _ _ ⟨K, hK, c⟩ k => ⟨K, PySem.W.Frag.In.keeps hK k, c⟩
theorem obsI_eq {n : Nat} {fa : List He.Fa} {fn : List He.DefD} {ts : List He.Tab} {ins : List InD} {P : Program} {ex : PySem.W.Frag → Bool} {g : Addr → Option Obj} {s : Shared} (h : ∀ a, g a = s.heap.get? a) : obsI n fa fn ts ins P ex g = (hookI n fa fn ts ins P ex).obs s := by
  have e : g = s.heap.get? := funext h
  rw [e] <;> rfl
end DL

namespace DL
open PySem PySem.Spec PyProof.Rows L2 TL
/-! ### all own errors at once -/
structure Errs (K : PySem.W.Frag) (mg : Str → Option Value) (sup : List (String × List String)) (names : List String) (fields : List Str) : Prop where
  each : ∀ c, (sup.lookup c).isSome = true → XfC K (He.ga K (Str.ofString c)) ∧ ExcC K (He.ga K (Str.ofString c)) ∧ mg (Str.ofString c) = some (.ref (He.ga K (Str.ofString c))) ∧ ∀ f ∈ fields, PySem.W.findIn K (.ref (He.ga K (Str.ofString c))) f = some none
  ord : supB K sup names = true
  nms : ∀ d ∈ names, mg (Str.ofString d) = some (.ref (He.ga K (Str.ofString d)))
theorem exT_some {sup : List (String × List String)} {c d : String} {b : Bool} (h : exT sup c d = some b) : (sup.lookup c).isSome = true := by
  unfold exT at h
  cases q : sup.lookup c with
  | none => rw [q] at h; cases h
  | some l => rfl
theorem Errs.cls {K : PySem.W.Frag} {mg : Str → Option Value} {sup : List (String × List String)} {names : List String} {fields : List Str} (E : Errs K mg sup names fields) {c d : String} {b : Bool} {cls : Value} (h : exT sup c d = some b) (hm : mg (Str.ofString c) = some cls) : cls = .ref (He.ga K (Str.ofString c)) :=
  Option.some.inj (hm.symm.trans (E.each c (exT_some h)).2.2.1)
section
variable {T : Tx} {sup : List (String × List String)} {names : List String} {fields : List Str}
theorem takes1 (E : Errs T.X.K T.X.mg sup names fields) {d : String} {x : Str} (hx : x = Str.ofString d) (hd : d ∈ names) (hg : Gl T.X x := by rfl) (hdb : (x == ("__debug__" : Str)) = false := by decide) : Takes1 T x (fun c => exT sup c d) := by
  subst hx
  exact ⟨_, ⟨hg, hdb, .inl (E.nms d hd)⟩, fun c b cls h hm => by rw [E.cls h hm]; exact (supB_ok E.ord hd h).1⟩
variable {pos np : Pos} {n : Str} {i : Nat} {a : Addr} {oe : Obj} {pn : List (Addr × Obj)} {cls : Value} {dd : Addr} {c d0 : String} {fs : Xs}
theorem je_xfE (E : Errs T.X.K T.X.mg sup names fields) {f : String} {fn : Str} (hcs : exT sup c d0 = some true) (hcl : T.X.mg (Str.ofString c) = some cls) (hz : Zc cls (some dd) oe) (hfv : ∃ vs, oe.data = .fields vs) (ef : fn = Str.ofString f) (hf : fn ∈ fields) (hN : T.X.N[i]? = some n) (hv : Vis T.X.env.scope n) (hd : (n == ("__debug__" : Str)) = false) (hcd : (n == ("__classdict__" : Str)) = false)
    (hbase : attributeBase (.Name n np) fn T.X.env (eval (.Name n np) T.X.env) = eval (.Name n np) T.X.env := by rfl) : JE (T.suite a oe pn i cls dd c fs) (.Attribute (.Name n np) fn pos) (eXf fs f) :=
  je_xf ef (E.each c (exT_some hcs)).1 (E.cls hcs hcl) ((E.each c (exT_some hcs)).2.2.2 fn hf) hz hfv hN hv hd hcd hbase
theorem je_xiE (E : Errs T.X.K T.X.mg sup names fields) {y z : Str} {d : String} {py pz pe : Pos} (hcs : exT sup c d0 = some true) (hcl : T.X.mg (Str.ofString c) = some cls) (hz : Zc cls (some dd) oe) (hfv : ∃ vs, oe.data = .fields vs) (ez : z = Str.ofString d) (hdn : d ∈ names) (hN : T.X.N[i]? = some n) (hv : Vis T.X.env.scope n) (hd : (n == ("__debug__" : Str)) = false) (hcd : (n == ("__classdict__" : Str)) = false)
    (hy : T.X.mg y = none) (by_ : bootBuiltins y = some (.builtin "isinstance")) (gy : Gl T.X y := by rfl) (gz : Gl T.X z := by rfl) (ny : y ≠ "__name__" := by decide) (dy : (y == ("__debug__" : Str)) = false := by decide) (dz : (z == ("__debug__" : Str)) = false := by decide)
    (he : starEach [.Name n pe, .Name z pz] T.X.env = (false, eval (.Name n pe) T.X.env) :: starEach [.Name z pz] T.X.env := by rfl) (he2 : starEach [.Name z pz] T.X.env = [(false, eval (.Name z pz) T.X.env)] := by rfl) (hpl : (backTo pos (starEach [.Name z pz] T.X.env)).any (·.1) = false := by rfl) :
    JE (T.suite a oe pn i cls dd c fs) (.Call (.Name y py) [.Name n pe, .Name z pz] [] pos) (eXi (exT sup c d)) := by
  subst ez
  exact je_xi (E.each c (exT_some hcs)).2.1 (E.cls hcs hcl) (fun r h => (supB_ok E.ord hdn h).2) hz hfv hN hv hd hcd hy by_ (E.nms d hdn) gy gz ny dy dz he he2 hpl
end
def clsBody : Stmt → List Stmt
  | .ClassDef _ _ _ b _ _ _ _ _ _ _ => b
  | _ => []
def initOf (s : Stmt) : Stmt := (clsBody s).getD 0 (.Pass ⟨0, 0, 0, 0⟩)
/-- raise, an own error -/
theorem js_raiseE {T : Tx} {d : InD} {c : String} {x : Str} {fs : List String} {fd : FuncData} {self : Str} {k : Nat} {p pos pos' : Pos} {e : Expr} {es : List Expr} {fl : EL} (E : ErrD T.X.prog T.X.K d fd) (ex : x = Str.ofString c) (ed : d.x = x)
    (G : FnOk T.X.prog T.X.w T.X.K T.X.mg T.X.base (L2.CX T.X.prog T.X.w) k (iAd T.X.K d.x) fd (self :: fs.map Str.ofString) (spI (He.ga T.X.K d.x) (fs.map Str.ofString))) (hr : Room (k + 1) T.X.A) (hb : Binds T.X.K fd (self :: fs.map Str.ofString) []) (tk : Tk T) (hc : T.X.calm = true)
    (hm : T.X.mg x = some (.ref (He.ga T.X.K x))) (nd : (fs.map Str.ofString).Nodup) (hsm : fs.length ≤ 1000) (ha : JA T (e :: es) fl) (hg : Gl T.X x := by rfl)
    (hdb : (x == ("__debug__" : Str)) = false := by decide) (he : starEach (e :: es) T.X.env = (false, eval e T.X.env) :: starEach es T.X.env := by rfl) (hpl : (backTo pos (starEach es T.X.env)).any (·.1) = false := by rfl) :
    JS T (.Raise (some (.Call (.Name x p) (e :: es) [] pos)) none pos') (sRaise c fs fl) := by
  subst ed
  exact js_raise ex E.ini.oex E.iC E.tI G hr hb tk hc hm nd hsm ha hg hdb he hpl
end DL

namespace DL
open PySem PySem.Spec PyProof.Rows L2 TL
mutual
/-- how many parts -/
def szD : D → Nat
  | .tup ds => szDs ds + 1
  | .lst ds => szDs ds + 1
  | _ => 1
def szDs : List D → Nat
  | [] => 0
  | d :: ds => szD d + szDs ds
end
theorem rep_nil {K : PySem.W.Frag} {w : World} {H : Hp} : Rep K w H [] [] := ⟨rfl, List.nodup_nil, fun n a o e => by cases e⟩
theorem law_sp {K : PySem.W.Frag} {w : World} {mg : Str → Option Value} {H : Hp} {a : Addr} {ns : List Int} {F : OL} (hO : Only H) (hS : SqL K H a (ns.map V.int)) (e : ∃ h', F [.scr ns] [] = .ok (.bl true) h') : spF K w mg 1 F [.ref a] H (fun v _ => v = .bl true) (fun _ _ _ => False) := by
  obtain ⟨h', e⟩ := e
  refine ⟨[], [], [.scr ns], rep_nil, .cons (.scr ?_) .nil, rfl, ?_⟩
  · rcases hS with h | h
    · rcases h with h | ⟨o, h⟩
      · rcases hO a with z | ⟨o, xs, z⟩ <;> (rw [h] at z; cases z)
      · exact .inl ⟨o, h⟩
    · exact .inr h
  · rw [e]
    intro v H' m' _ _ q
    cases q
    rfl
/-- in some world -/
def CXw (P : Program) : CXT := fun outer H s E u s' => ∃ w : World, L2.CX P w outer H s E u s'
theorem fn_cx {P : Program} {w : World} {K : PySem.W.Frag} {mg : Str → Option Value} {base : Heap} {k : Nat} {f : Addr} {fd : FuncData} {ps : List Str} {sp : Sp} (F : FnOk P w K mg base (L2.CX P w) k f fd ps sp) : FnOk P w K mg base (CXw P) k f fd ps sp :=
  ⟨F.len, fun A outer s H args us vs Q E hr e0 hb r hs => codeAny_mono (F.run A outer s H args us vs Q E hr e0 hb r hs) fun r s' h => by
    cases r with
    | ok fl => cases fl <;> exact h
    | error e => exact ⟨w, h⟩⟩
theorem no_cx {P : Program} (H : Hp) (s : Shared) (e : Value) (s' : Shared) (h : CXw P [] H s (fun _ _ _ => False) e s') : False := by
  obtain ⟨w, a, B, H', cls, d, _, _, _, _, _, _, _, z⟩ := h
  exact z
end DL

namespace k01
open PySem PySem.Spec PyProof.Rows L2 TL DL
def top (i : Nat) : Stmt := PySem.Challenge.pw_roundcredits_k01_lexemes.main.body.getD i (.Pass ⟨0, 0, 0, 0⟩)
abbrev PP : Program := (PySem.Challenge.rw_roundcredits_k01_lexemes).prog
abbrev s_stretch_end : Stmt := top 9
abbrev s_lexemes_or_none : Stmt := top 10
abbrev s_lexemes_of : Stmt := top 11
abbrev s__law_pool : Stmt := top 13
abbrev s__law_draw : Stmt := top 14
abbrev s__law_same : Stmt := top 15
abbrev s__law_due : Stmt := top 16
abbrev s__law_heard : Stmt := top 17
abbrev s__law_holds : Stmt := top 18
abbrev s__law_stretch : Stmt := top 19
abbrev s__law_line : Stmt := top 20
abbrev s__law_bent : Stmt := top 21
abbrev s_law : Stmt := top 22
theorem bt_abs : bootBuiltins "abs" = some (.builtin "abs") := by decide +kernel
theorem bt_bool : bootBuiltins "bool" = some (.type "bool") := by decide +kernel
theorem bt_int : bootBuiltins "int" = some (.type "int") := by decide +kernel
theorem bt_isinstance : bootBuiltins "isinstance" = some (.builtin "isinstance") := by decide +kernel
theorem bt_len : bootBuiltins "len" = some (.builtin "len") := by decide +kernel
theorem bt_list : bootBuiltins "list" = some (.type "list") := by decide +kernel
theorem bt_str : bootBuiltins "str" = some (.type "str") := by decide +kernel
theorem bt_tuple : bootBuiltins "tuple" = some (.type "tuple") := by decide +kernel
theorem st0 : ("." : Str) = ⟨([46] : List Nat).toArray⟩ := by decide +kernel
theorem st1 : ("sign" : Str) = ⟨([115,105,103,110] : List Nat).toArray⟩ := by decide +kernel
theorem st2 : ("" : Str) = ⟨([] : List Nat).toArray⟩ := by decide +kernel
theorem st3 : ("abcdefghijklmnopqrstuvwxyz" : Str) = ⟨([97,98,99,100,101,102,103,104,105,106,107,108,109,110,111,112,113,114,115,116,117,118,119,120,121,122] : List Nat).toArray⟩ := by decide +kernel
theorem st4 : ("0123456789" : Str) = ⟨([48,49,50,51,52,53,54,55,56,57] : List Nat).toArray⟩ := by decide +kernel
theorem st5 : ("name" : Str) = ⟨([110,97,109,101] : List Nat).toArray⟩ := by decide +kernel
theorem st6 : ("number" : Str) = ⟨([110,117,109,98,101,114] : List Nat).toArray⟩ := by decide +kernel
theorem st7 : ("+-*/()" : Str) = ⟨([43,45,42,47,40,41] : List Nat).toArray⟩ := by decide +kernel
theorem st8 : (" " : Str) = ⟨([32] : List Nat).toArray⟩ := by decide +kernel
theorem st9 : ("told" : Str) = ⟨([116,111,108,100] : List Nat).toArray⟩ := by decide +kernel
theorem st10 : ("text" : Str) = ⟨([116,101,120,116] : List Nat).toArray⟩ := by decide +kernel
theorem st11 : ("odd" : Str) = ⟨([111,100,100] : List Nat).toArray⟩ := by decide +kernel
theorem st12 : ("abmxyz" : Str) = ⟨([97,98,109,120,121,122] : List Nat).toArray⟩ := by decide +kernel
theorem st13 : ("az09bq" : Str) = ⟨([97,122,48,57,98,113] : List Nat).toArray⟩ := by decide +kernel
theorem st14 : ("0.9.12" : Str) = ⟨([48,46,57,46,49,50] : List Nat).toArray⟩ := by decide +kernel
theorem st15 : ("=#,;:!?A_Z&<[{~'@^|" : Str) = ⟨([61,35,44,59,58,33,63,65,95,90,38,60,91,123,126,39,64,94,124] : List Nat).toArray⟩ := by decide +kernel
theorem st16 : (" ." : Str) = ⟨([32,46] : List Nat).toArray⟩ := by decide +kernel
theorem st17 : ("(." : Str) = ⟨([40,46] : List Nat).toArray⟩ := by decide +kernel
theorem st18 : ("x." : Str) = ⟨([120,46] : List Nat).toArray⟩ := by decide +kernel
theorem st19 : ("-.5" : Str) = ⟨([45,46,53] : List Nat).toArray⟩ := by decide +kernel
theorem st20 : ("ab01.+-*/() =" : Str) = ⟨([97,98,48,49,46,43,45,42,47,40,41,32,61] : List Nat).toArray⟩ := by decide +kernel
theorem st21 : ("2*x1 -(y/0.5)" : Str) = ⟨([50,42,120,49,32,45,40,121,47,48,46,53,41] : List Nat).toArray⟩ := by decide +kernel
theorem st22 : ("2x" : Str) = ⟨([50,120] : List Nat).toArray⟩ := by decide +kernel
theorem st23 : ("x2y" : Str) = ⟨([120,50,121] : List Nat).toArray⟩ := by decide +kernel
theorem st24 : ("1..2.x" : Str) = ⟨([49,46,46,50,46,120] : List Nat).toArray⟩ := by decide +kernel
theorem st25 : ("a b" : Str) = ⟨([97,32,98] : List Nat).toArray⟩ := by decide +kernel
theorem st26 : ("--(" : Str) = ⟨([45,45,40] : List Nat).toArray⟩ := by decide +kernel
theorem st27 : ("  " : Str) = ⟨([32,32] : List Nat).toArray⟩ := by decide +kernel
theorem st28 : ("0012ab." : Str) = ⟨([48,48,49,50,97,98,46] : List Nat).toArray⟩ := by decide +kernel
theorem st29 : (".5" : Str) = ⟨([46,53] : List Nat).toArray⟩ := by decide +kernel
theorem st30 : ("1.5." : Str) = ⟨([49,46,53,46] : List Nat).toArray⟩ := by decide +kernel
theorem st31 : ("x = y" : Str) = ⟨([120,32,61,32,121] : List Nat).toArray⟩ := by decide +kernel
theorem st32 : ("X" : Str) = ⟨([88] : List Nat).toArray⟩ := by decide +kernel
theorem st33 : ("1e5" : Str) = ⟨([49,101,53] : List Nat).toArray⟩ := by decide +kernel
theorem st34 : ("3 ." : Str) = ⟨([51,32,46] : List Nat).toArray⟩ := by decide +kernel
theorem st35 : ("(1.)" : Str) = ⟨([40,49,46,41] : List Nat).toArray⟩ := by decide +kernel
theorem st36 : ("2" : Str) = ⟨([50] : List Nat).toArray⟩ := by decide +kernel
theorem st37 : ("*" : Str) = ⟨([42] : List Nat).toArray⟩ := by decide +kernel
theorem st38 : ("x1" : Str) = ⟨([120,49] : List Nat).toArray⟩ := by decide +kernel
theorem st39 : ("-" : Str) = ⟨([45] : List Nat).toArray⟩ := by decide +kernel
theorem st40 : ("(" : Str) = ⟨([40] : List Nat).toArray⟩ := by decide +kernel
theorem st41 : ("y" : Str) = ⟨([121] : List Nat).toArray⟩ := by decide +kernel
theorem st42 : ("/" : Str) = ⟨([47] : List Nat).toArray⟩ := by decide +kernel
theorem st43 : ("0.5" : Str) = ⟨([48,46,53] : List Nat).toArray⟩ := by decide +kernel
theorem st44 : (")" : Str) = ⟨([41] : List Nat).toArray⟩ := by decide +kernel
theorem st45 : ("x" : Str) = ⟨([120] : List Nat).toArray⟩ := by decide +kernel
theorem st46 : ("1..2." : Str) = ⟨([49,46,46,50,46] : List Nat).toArray⟩ := by decide +kernel
theorem st47 : ("a" : Str) = ⟨([97] : List Nat).toArray⟩ := by decide +kernel
theorem st48 : ("b" : Str) = ⟨([98] : List Nat).toArray⟩ := by decide +kernel
theorem st49 : ("1" : Str) = ⟨([49] : List Nat).toArray⟩ := by decide +kernel
theorem st50 : ("e5" : Str) = ⟨([101,53] : List Nat).toArray⟩ := by decide +kernel
theorem st51 : ("1." : Str) = ⟨([49,46] : List Nat).toArray⟩ := by decide +kernel
theorem st52 : ("abcdefghijkl" : Str) = ⟨([97,98,99,100,101,102,103,104,105,106,107,108] : List Nat).toArray⟩ := by decide +kernel
theorem st53 : ("123456789012 a1b2c3d4e5f" : Str) = ⟨([49,50,51,52,53,54,55,56,57,48,49,50,32,97,49,98,50,99,51,100,52,101,53,102] : List Nat).toArray⟩ := by decide +kernel
theorem st54 : ("123456789012" : Str) = ⟨([49,50,51,52,53,54,55,56,57,48,49,50] : List Nat).toArray⟩ := by decide +kernel
theorem st55 : ("a1b2c3d4e5f" : Str) = ⟨([97,49,98,50,99,51,100,52,101,53,102] : List Nat).toArray⟩ := by decide +kernel
theorem nd_at : (("at" : Str) == ("__debug__" : Str)) = false := by decide +kernel
theorem cd_at : (("at" : Str) == ("__classdict__" : Str)) = false := by decide +kernel
theorem nd_cell : (("cell" : Str) == ("__debug__" : Str)) = false := by decide +kernel
theorem cd_cell : (("cell" : Str) == ("__classdict__" : Str)) = false := by decide +kernel
theorem nd_due : (("due" : Str) == ("__debug__" : Str)) = false := by decide +kernel
theorem cd_due : (("due" : Str) == ("__classdict__" : Str)) = false := by decide +kernel
theorem nd_dues : (("dues" : Str) == ("__debug__" : Str)) = false := by decide +kernel
theorem cd_dues : (("dues" : Str) == ("__classdict__" : Str)) = false := by decide +kernel
theorem nd_e : (("e" : Str) == ("__debug__" : Str)) = false := by decide +kernel
theorem cd_e : (("e" : Str) == ("__classdict__" : Str)) = false := by decide +kernel
theorem nd_end : (("end" : Str) == ("__debug__" : Str)) = false := by decide +kernel
theorem cd_end : (("end" : Str) == ("__classdict__" : Str)) = false := by decide +kernel
theorem nd_figure : (("figure" : Str) == ("__debug__" : Str)) = false := by decide +kernel
theorem cd_figure : (("figure" : Str) == ("__classdict__" : Str)) = false := by decide +kernel
theorem nd_found : (("found" : Str) == ("__debug__" : Str)) = false := by decide +kernel
theorem cd_found : (("found" : Str) == ("__classdict__" : Str)) = false := by decide +kernel
theorem nd_free : (("free" : Str) == ("__debug__" : Str)) = false := by decide +kernel
theorem cd_free : (("free" : Str) == ("__classdict__" : Str)) = false := by decide +kernel
theorem nd_habit : (("habit" : Str) == ("__debug__" : Str)) = false := by decide +kernel
theorem cd_habit : (("habit" : Str) == ("__classdict__" : Str)) = false := by decide +kernel
theorem nd_lap : (("lap" : Str) == ("__debug__" : Str)) = false := by decide +kernel
theorem cd_lap : (("lap" : Str) == ("__classdict__" : Str)) = false := by decide +kernel
theorem nd_let : (("let" : Str) == ("__debug__" : Str)) = false := by decide +kernel
theorem cd_let : (("let" : Str) == ("__classdict__" : Str)) = false := by decide +kernel
theorem nd_letter : (("letter" : Str) == ("__debug__" : Str)) = false := by decide +kernel
theorem cd_letter : (("letter" : Str) == ("__classdict__" : Str)) = false := by decide +kernel
theorem nd_line : (("line" : Str) == ("__debug__" : Str)) = false := by decide +kernel
theorem cd_line : (("line" : Str) == ("__classdict__" : Str)) = false := by decide +kernel
theorem nd_loose : (("loose" : Str) == ("__debug__" : Str)) = false := by decide +kernel
theorem cd_loose : (("loose" : Str) == ("__classdict__" : Str)) = false := by decide +kernel
theorem nd_many : (("many" : Str) == ("__debug__" : Str)) = false := by decide +kernel
theorem cd_many : (("many" : Str) == ("__classdict__" : Str)) = false := by decide +kernel
theorem nd_one : (("one" : Str) == ("__debug__" : Str)) = false := by decide +kernel
theorem cd_one : (("one" : Str) == ("__classdict__" : Str)) = false := by decide +kernel
theorem nd_other : (("other" : Str) == ("__debug__" : Str)) = false := by decide +kernel
theorem cd_other : (("other" : Str) == ("__classdict__" : Str)) = false := by decide +kernel
theorem nd_pool : (("pool" : Str) == ("__debug__" : Str)) = false := by decide +kernel
theorem cd_pool : (("pool" : Str) == ("__classdict__" : Str)) = false := by decide +kernel
theorem nd_rest : (("rest" : Str) == ("__debug__" : Str)) = false := by decide +kernel
theorem cd_rest : (("rest" : Str) == ("__classdict__" : Str)) = false := by decide +kernel
theorem nd_rows : (("rows" : Str) == ("__debug__" : Str)) = false := by decide +kernel
theorem cd_rows : (("rows" : Str) == ("__classdict__" : Str)) = false := by decide +kernel
theorem nd_script : (("script" : Str) == ("__debug__" : Str)) = false := by decide +kernel
theorem cd_script : (("script" : Str) == ("__classdict__" : Str)) = false := by decide +kernel
theorem nd_sign : (("sign" : Str) == ("__debug__" : Str)) = false := by decide +kernel
theorem cd_sign : (("sign" : Str) == ("__classdict__" : Str)) = false := by decide +kernel
theorem nd_start : (("start" : Str) == ("__debug__" : Str)) = false := by decide +kernel
theorem cd_start : (("start" : Str) == ("__classdict__" : Str)) = false := by decide +kernel
theorem nd_state : (("state" : Str) == ("__debug__" : Str)) = false := by decide +kernel
theorem cd_state : (("state" : Str) == ("__classdict__" : Str)) = false := by decide +kernel
theorem nd_text : (("text" : Str) == ("__debug__" : Str)) = false := by decide +kernel
theorem cd_text : (("text" : Str) == ("__classdict__" : Str)) = false := by decide +kernel
theorem nd_told : (("told" : Str) == ("__debug__" : Str)) = false := by decide +kernel
theorem cd_told : (("told" : Str) == ("__classdict__" : Str)) = false := by decide +kernel
theorem sc_stretch_end : FnScope ["line", "start", "let", "end"] ["line", "start", "let"] (defScope s_stretch_end) := ⟨rfl, rfl, rfl, by decide +kernel, rfl, by decide +kernel, by decide +kernel⟩
theorem lk_stretch_end_0 : (defScope s_stretch_end).names.lookup ("line" : Str) = some NameKind.local := by decide +kernel
theorem lo_stretch_end_0 : Loc (defScope s_stretch_end) "line" := .inl lk_stretch_end_0
theorem vi_stretch_end_0 : Vis (defScope s_stretch_end) "line" := .inl lk_stretch_end_0
theorem lk_stretch_end_1 : (defScope s_stretch_end).names.lookup ("start" : Str) = some NameKind.local := by decide +kernel
theorem lo_stretch_end_1 : Loc (defScope s_stretch_end) "start" := .inl lk_stretch_end_1
theorem vi_stretch_end_1 : Vis (defScope s_stretch_end) "start" := .inl lk_stretch_end_1
theorem lk_stretch_end_2 : (defScope s_stretch_end).names.lookup ("let" : Str) = some NameKind.local := by decide +kernel
theorem lo_stretch_end_2 : Loc (defScope s_stretch_end) "let" := .inl lk_stretch_end_2
theorem vi_stretch_end_2 : Vis (defScope s_stretch_end) "let" := .inl lk_stretch_end_2
theorem lk_stretch_end_3 : (defScope s_stretch_end).names.lookup ("end" : Str) = some NameKind.local := by decide +kernel
theorem lo_stretch_end_3 : Loc (defScope s_stretch_end) "end" := .inl lk_stretch_end_3
theorem vi_stretch_end_3 : Vis (defScope s_stretch_end) "end" := .inl lk_stretch_end_3
theorem sc_lexemes_or_none : FnScope ["line", "found", "at", "sign", "end"] ["line"] (defScope s_lexemes_or_none) := ⟨rfl, rfl, rfl, by decide +kernel, rfl, by decide +kernel, by decide +kernel⟩
theorem lk_lexemes_or_none_0 : (defScope s_lexemes_or_none).names.lookup ("line" : Str) = some NameKind.local := by decide +kernel
theorem lo_lexemes_or_none_0 : Loc (defScope s_lexemes_or_none) "line" := .inl lk_lexemes_or_none_0
theorem vi_lexemes_or_none_0 : Vis (defScope s_lexemes_or_none) "line" := .inl lk_lexemes_or_none_0
theorem lk_lexemes_or_none_1 : (defScope s_lexemes_or_none).names.lookup ("found" : Str) = some NameKind.local := by decide +kernel
theorem lo_lexemes_or_none_1 : Loc (defScope s_lexemes_or_none) "found" := .inl lk_lexemes_or_none_1
theorem vi_lexemes_or_none_1 : Vis (defScope s_lexemes_or_none) "found" := .inl lk_lexemes_or_none_1
theorem lk_lexemes_or_none_2 : (defScope s_lexemes_or_none).names.lookup ("at" : Str) = some NameKind.local := by decide +kernel
theorem lo_lexemes_or_none_2 : Loc (defScope s_lexemes_or_none) "at" := .inl lk_lexemes_or_none_2
theorem vi_lexemes_or_none_2 : Vis (defScope s_lexemes_or_none) "at" := .inl lk_lexemes_or_none_2
theorem lk_lexemes_or_none_3 : (defScope s_lexemes_or_none).names.lookup ("sign" : Str) = some NameKind.local := by decide +kernel
theorem lo_lexemes_or_none_3 : Loc (defScope s_lexemes_or_none) "sign" := .inl lk_lexemes_or_none_3
theorem vi_lexemes_or_none_3 : Vis (defScope s_lexemes_or_none) "sign" := .inl lk_lexemes_or_none_3
theorem lk_lexemes_or_none_4 : (defScope s_lexemes_or_none).names.lookup ("end" : Str) = some NameKind.local := by decide +kernel
theorem lo_lexemes_or_none_4 : Loc (defScope s_lexemes_or_none) "end" := .inl lk_lexemes_or_none_4
theorem vi_lexemes_or_none_4 : Vis (defScope s_lexemes_or_none) "end" := .inl lk_lexemes_or_none_4
theorem sc_lexemes_of : FnScope ["line", "found"] ["line"] (defScope s_lexemes_of) := ⟨rfl, rfl, rfl, by decide +kernel, rfl, by decide +kernel, by decide +kernel⟩
theorem lk_lexemes_of_0 : (defScope s_lexemes_of).names.lookup ("line" : Str) = some NameKind.local := by decide +kernel
theorem lo_lexemes_of_0 : Loc (defScope s_lexemes_of) "line" := .inl lk_lexemes_of_0
theorem vi_lexemes_of_0 : Vis (defScope s_lexemes_of) "line" := .inl lk_lexemes_of_0
theorem lk_lexemes_of_1 : (defScope s_lexemes_of).names.lookup ("found" : Str) = some NameKind.local := by decide +kernel
theorem lo_lexemes_of_1 : Loc (defScope s_lexemes_of) "found" := .inl lk_lexemes_of_1
theorem vi_lexemes_of_1 : Vis (defScope s_lexemes_of) "found" := .inl lk_lexemes_of_1
theorem sc__law_pool : FnScope ["script", "pool", "cell"] ["script"] (defScope s__law_pool) := ⟨rfl, rfl, rfl, by decide +kernel, rfl, by decide +kernel, by decide +kernel⟩
theorem lk__law_pool_0 : (defScope s__law_pool).names.lookup ("script" : Str) = some NameKind.local := by decide +kernel
theorem lo__law_pool_0 : Loc (defScope s__law_pool) "script" := .inl lk__law_pool_0
theorem vi__law_pool_0 : Vis (defScope s__law_pool) "script" := .inl lk__law_pool_0
theorem lk__law_pool_1 : (defScope s__law_pool).names.lookup ("pool" : Str) = some NameKind.local := by decide +kernel
theorem lo__law_pool_1 : Loc (defScope s__law_pool) "pool" := .inl lk__law_pool_1
theorem vi__law_pool_1 : Vis (defScope s__law_pool) "pool" := .inl lk__law_pool_1
theorem lk__law_pool_2 : (defScope s__law_pool).names.lookup ("cell" : Str) = some NameKind.local := by decide +kernel
theorem lo__law_pool_2 : Loc (defScope s__law_pool) "cell" := .inl lk__law_pool_2
theorem vi__law_pool_2 : Vis (defScope s__law_pool) "cell" := .inl lk__law_pool_2
theorem sc__law_draw : FnScope ["pool", "many", "cell"] ["pool", "many"] (defScope s__law_draw) := ⟨rfl, rfl, rfl, by decide +kernel, rfl, by decide +kernel, by decide +kernel⟩
theorem lk__law_draw_0 : (defScope s__law_draw).names.lookup ("pool" : Str) = some NameKind.local := by decide +kernel
theorem lo__law_draw_0 : Loc (defScope s__law_draw) "pool" := .inl lk__law_draw_0
theorem vi__law_draw_0 : Vis (defScope s__law_draw) "pool" := .inl lk__law_draw_0
theorem lk__law_draw_1 : (defScope s__law_draw).names.lookup ("many" : Str) = some NameKind.local := by decide +kernel
theorem lo__law_draw_1 : Loc (defScope s__law_draw) "many" := .inl lk__law_draw_1
theorem vi__law_draw_1 : Vis (defScope s__law_draw) "many" := .inl lk__law_draw_1
theorem lk__law_draw_2 : (defScope s__law_draw).names.lookup ("cell" : Str) = some NameKind.local := by decide +kernel
theorem lo__law_draw_2 : Loc (defScope s__law_draw) "cell" := .inl lk__law_draw_2
theorem vi__law_draw_2 : Vis (defScope s__law_draw) "cell" := .inl lk__law_draw_2
theorem sc__law_same : FnScope ["told", "due", "rest", "one", "other", "at"] ["told", "due"] (defScope s__law_same) := ⟨rfl, rfl, rfl, by decide +kernel, rfl, by decide +kernel, by decide +kernel⟩
theorem lk__law_same_0 : (defScope s__law_same).names.lookup ("told" : Str) = some NameKind.local := by decide +kernel
theorem lo__law_same_0 : Loc (defScope s__law_same) "told" := .inl lk__law_same_0
theorem vi__law_same_0 : Vis (defScope s__law_same) "told" := .inl lk__law_same_0
theorem lk__law_same_1 : (defScope s__law_same).names.lookup ("due" : Str) = some NameKind.local := by decide +kernel
theorem lo__law_same_1 : Loc (defScope s__law_same) "due" := .inl lk__law_same_1
theorem vi__law_same_1 : Vis (defScope s__law_same) "due" := .inl lk__law_same_1
theorem lk__law_same_2 : (defScope s__law_same).names.lookup ("rest" : Str) = some NameKind.local := by decide +kernel
theorem lo__law_same_2 : Loc (defScope s__law_same) "rest" := .inl lk__law_same_2
theorem vi__law_same_2 : Vis (defScope s__law_same) "rest" := .inl lk__law_same_2
theorem lk__law_same_3 : (defScope s__law_same).names.lookup ("one" : Str) = some NameKind.cell := by decide +kernel
theorem lo__law_same_3 : Loc (defScope s__law_same) "one" := .inr lk__law_same_3
theorem vi__law_same_3 : Vis (defScope s__law_same) "one" := .inr (.inl lk__law_same_3)
theorem lk__law_same_4 : (defScope s__law_same).names.lookup ("other" : Str) = some NameKind.cell := by decide +kernel
theorem lo__law_same_4 : Loc (defScope s__law_same) "other" := .inr lk__law_same_4
theorem vi__law_same_4 : Vis (defScope s__law_same) "other" := .inr (.inl lk__law_same_4)
theorem sc__law_due : FnScope ["line", "told", "state", "sign", "letter", "figure"] ["line"] (defScope s__law_due) := ⟨rfl, rfl, rfl, by decide +kernel, rfl, by decide +kernel, by decide +kernel⟩
theorem lk__law_due_0 : (defScope s__law_due).names.lookup ("line" : Str) = some NameKind.local := by decide +kernel
theorem lo__law_due_0 : Loc (defScope s__law_due) "line" := .inl lk__law_due_0
theorem vi__law_due_0 : Vis (defScope s__law_due) "line" := .inl lk__law_due_0
theorem lk__law_due_1 : (defScope s__law_due).names.lookup ("told" : Str) = some NameKind.local := by decide +kernel
theorem lo__law_due_1 : Loc (defScope s__law_due) "told" := .inl lk__law_due_1
theorem vi__law_due_1 : Vis (defScope s__law_due) "told" := .inl lk__law_due_1
theorem lk__law_due_2 : (defScope s__law_due).names.lookup ("state" : Str) = some NameKind.local := by decide +kernel
theorem lo__law_due_2 : Loc (defScope s__law_due) "state" := .inl lk__law_due_2
theorem vi__law_due_2 : Vis (defScope s__law_due) "state" := .inl lk__law_due_2
theorem lk__law_due_3 : (defScope s__law_due).names.lookup ("sign" : Str) = some NameKind.local := by decide +kernel
theorem lo__law_due_3 : Loc (defScope s__law_due) "sign" := .inl lk__law_due_3
theorem vi__law_due_3 : Vis (defScope s__law_due) "sign" := .inl lk__law_due_3
theorem lk__law_due_4 : (defScope s__law_due).names.lookup ("letter" : Str) = some NameKind.local := by decide +kernel
theorem lo__law_due_4 : Loc (defScope s__law_due) "letter" := .inl lk__law_due_4
theorem vi__law_due_4 : Vis (defScope s__law_due) "letter" := .inl lk__law_due_4
theorem lk__law_due_5 : (defScope s__law_due).names.lookup ("figure" : Str) = some NameKind.local := by decide +kernel
theorem lo__law_due_5 : Loc (defScope s__law_due) "figure" := .inl lk__law_due_5
theorem vi__law_due_5 : Vis (defScope s__law_due) "figure" := .inl lk__law_due_5
theorem sc__law_heard : FnScope ["line", "e"] ["line"] (defScope s__law_heard) := ⟨rfl, rfl, rfl, by decide +kernel, rfl, by decide +kernel, by decide +kernel⟩
theorem lk__law_heard_0 : (defScope s__law_heard).names.lookup ("line" : Str) = some NameKind.local := by decide +kernel
theorem lo__law_heard_0 : Loc (defScope s__law_heard) "line" := .inl lk__law_heard_0
theorem vi__law_heard_0 : Vis (defScope s__law_heard) "line" := .inl lk__law_heard_0
theorem lk__law_heard_1 : (defScope s__law_heard).names.lookup ("e" : Str) = some NameKind.local := by decide +kernel
theorem lo__law_heard_1 : Loc (defScope s__law_heard) "e" := .inl lk__law_heard_1
theorem vi__law_heard_1 : Vis (defScope s__law_heard) "e" := .inl lk__law_heard_1
theorem sc__law_holds : FnScope ["line", "due"] ["line"] (defScope s__law_holds) := ⟨rfl, rfl, rfl, by decide +kernel, rfl, by decide +kernel, by decide +kernel⟩
theorem lk__law_holds_0 : (defScope s__law_holds).names.lookup ("line" : Str) = some NameKind.local := by decide +kernel
theorem lo__law_holds_0 : Loc (defScope s__law_holds) "line" := .inl lk__law_holds_0
theorem vi__law_holds_0 : Vis (defScope s__law_holds) "line" := .inl lk__law_holds_0
theorem lk__law_holds_1 : (defScope s__law_holds).names.lookup ("due" : Str) = some NameKind.local := by decide +kernel
theorem lo__law_holds_1 : Loc (defScope s__law_holds) "due" := .inl lk__law_holds_1
theorem vi__law_holds_1 : Vis (defScope s__law_holds) "due" := .inl lk__law_holds_1
theorem sc__law_stretch : FnScope ["pool", "habit", "text", "lap"] ["pool"] (defScope s__law_stretch) := ⟨rfl, rfl, rfl, by decide +kernel, rfl, by decide +kernel, by decide +kernel⟩
theorem lk__law_stretch_0 : (defScope s__law_stretch).names.lookup ("pool" : Str) = some NameKind.local := by decide +kernel
theorem lo__law_stretch_0 : Loc (defScope s__law_stretch) "pool" := .inl lk__law_stretch_0
theorem vi__law_stretch_0 : Vis (defScope s__law_stretch) "pool" := .inl lk__law_stretch_0
theorem lk__law_stretch_1 : (defScope s__law_stretch).names.lookup ("habit" : Str) = some NameKind.local := by decide +kernel
theorem lo__law_stretch_1 : Loc (defScope s__law_stretch) "habit" := .inl lk__law_stretch_1
theorem vi__law_stretch_1 : Vis (defScope s__law_stretch) "habit" := .inl lk__law_stretch_1
theorem lk__law_stretch_2 : (defScope s__law_stretch).names.lookup ("text" : Str) = some NameKind.local := by decide +kernel
theorem lo__law_stretch_2 : Loc (defScope s__law_stretch) "text" := .inl lk__law_stretch_2
theorem vi__law_stretch_2 : Vis (defScope s__law_stretch) "text" := .inl lk__law_stretch_2
theorem lk__law_stretch_3 : (defScope s__law_stretch).names.lookup ("lap" : Str) = some NameKind.local := by decide +kernel
theorem lo__law_stretch_3 : Loc (defScope s__law_stretch) "lap" := .inl lk__law_stretch_3
theorem vi__law_stretch_3 : Vis (defScope s__law_stretch) "lap" := .inl lk__law_stretch_3
theorem sc__law_line : FnScope ["pool", "loose", "line", "lap"] ["pool"] (defScope s__law_line) := ⟨rfl, rfl, rfl, by decide +kernel, rfl, by decide +kernel, by decide +kernel⟩
theorem lk__law_line_0 : (defScope s__law_line).names.lookup ("pool" : Str) = some NameKind.local := by decide +kernel
theorem lo__law_line_0 : Loc (defScope s__law_line) "pool" := .inl lk__law_line_0
theorem vi__law_line_0 : Vis (defScope s__law_line) "pool" := .inl lk__law_line_0
theorem lk__law_line_1 : (defScope s__law_line).names.lookup ("loose" : Str) = some NameKind.local := by decide +kernel
theorem lo__law_line_1 : Loc (defScope s__law_line) "loose" := .inl lk__law_line_1
theorem vi__law_line_1 : Vis (defScope s__law_line) "loose" := .inl lk__law_line_1
theorem lk__law_line_2 : (defScope s__law_line).names.lookup ("line" : Str) = some NameKind.local := by decide +kernel
theorem lo__law_line_2 : Loc (defScope s__law_line) "line" := .inl lk__law_line_2
theorem vi__law_line_2 : Vis (defScope s__law_line) "line" := .inl lk__law_line_2
theorem lk__law_line_3 : (defScope s__law_line).names.lookup ("lap" : Str) = some NameKind.local := by decide +kernel
theorem lo__law_line_3 : Loc (defScope s__law_line) "lap" := .inl lk__law_line_3
theorem vi__law_line_3 : Vis (defScope s__law_line) "lap" := .inl lk__law_line_3
theorem sc__law_bent : FnScope ["pool", "line", "at", "sign"] ["pool", "line"] (defScope s__law_bent) := ⟨rfl, rfl, rfl, by decide +kernel, rfl, by decide +kernel, by decide +kernel⟩
theorem lk__law_bent_0 : (defScope s__law_bent).names.lookup ("pool" : Str) = some NameKind.local := by decide +kernel
theorem lo__law_bent_0 : Loc (defScope s__law_bent) "pool" := .inl lk__law_bent_0
theorem vi__law_bent_0 : Vis (defScope s__law_bent) "pool" := .inl lk__law_bent_0
theorem lk__law_bent_1 : (defScope s__law_bent).names.lookup ("line" : Str) = some NameKind.local := by decide +kernel
theorem lo__law_bent_1 : Loc (defScope s__law_bent) "line" := .inl lk__law_bent_1
theorem vi__law_bent_1 : Vis (defScope s__law_bent) "line" := .inl lk__law_bent_1
theorem lk__law_bent_2 : (defScope s__law_bent).names.lookup ("at" : Str) = some NameKind.local := by decide +kernel
theorem lo__law_bent_2 : Loc (defScope s__law_bent) "at" := .inl lk__law_bent_2
theorem vi__law_bent_2 : Vis (defScope s__law_bent) "at" := .inl lk__law_bent_2
theorem lk__law_bent_3 : (defScope s__law_bent).names.lookup ("sign" : Str) = some NameKind.local := by decide +kernel
theorem lo__law_bent_3 : Loc (defScope s__law_bent) "sign" := .inl lk__law_bent_3
theorem vi__law_bent_3 : Vis (defScope s__law_bent) "sign" := .inl lk__law_bent_3
theorem sc_law : FnScope ["script", "pool", "lap", "rows", "dues", "at", "line", "free"] ["script"] (defScope s_law) := ⟨rfl, rfl, rfl, by decide +kernel, rfl, by decide +kernel, by decide +kernel⟩
theorem lk_law_0 : (defScope s_law).names.lookup ("script" : Str) = some NameKind.local := by decide +kernel
theorem lo_law_0 : Loc (defScope s_law) "script" := .inl lk_law_0
theorem vi_law_0 : Vis (defScope s_law) "script" := .inl lk_law_0
theorem lk_law_1 : (defScope s_law).names.lookup ("pool" : Str) = some NameKind.cell := by decide +kernel
theorem lo_law_1 : Loc (defScope s_law) "pool" := .inr lk_law_1
theorem vi_law_1 : Vis (defScope s_law) "pool" := .inr (.inl lk_law_1)
theorem lk_law_2 : (defScope s_law).names.lookup ("lap" : Str) = some NameKind.local := by decide +kernel
theorem lo_law_2 : Loc (defScope s_law) "lap" := .inl lk_law_2
theorem vi_law_2 : Vis (defScope s_law) "lap" := .inl lk_law_2
theorem lk_law_3 : (defScope s_law).names.lookup ("rows" : Str) = some NameKind.local := by decide +kernel
theorem lo_law_3 : Loc (defScope s_law) "rows" := .inl lk_law_3
theorem vi_law_3 : Vis (defScope s_law) "rows" := .inl lk_law_3
theorem lk_law_4 : (defScope s_law).names.lookup ("dues" : Str) = some NameKind.local := by decide +kernel
theorem lo_law_4 : Loc (defScope s_law) "dues" := .inl lk_law_4
theorem vi_law_4 : Vis (defScope s_law) "dues" := .inl lk_law_4
theorem lk_law_5 : (defScope s_law).names.lookup ("at" : Str) = some NameKind.local := by decide +kernel
theorem lo_law_5 : Loc (defScope s_law) "at" := .inl lk_law_5
theorem vi_law_5 : Vis (defScope s_law) "at" := .inl lk_law_5
theorem lk_law_6 : (defScope s_law).names.lookup ("line" : Str) = some NameKind.local := by decide +kernel
theorem lo_law_6 : Loc (defScope s_law) "line" := .inl lk_law_6
theorem vi_law_6 : Vis (defScope s_law) "line" := .inl lk_law_6
theorem lk_law_7 : (defScope s_law).names.lookup ("free" : Str) = some NameKind.local := by decide +kernel
theorem lo_law_7 : Loc (defScope s_law) "free" := .inl lk_law_7
theorem vi_law_7 : Vis (defScope s_law) "free" := .inl lk_law_7
def c_SIGNS : D := .str [43,45,42,47,40,41]
def c_LETTERS : D := .str [97,98,99,100,101,102,103,104,105,106,107,108,109,110,111,112,113,114,115,116,117,118,119,120,121,122]
def c_BLANK : D := .str [32]
def c_FIGURES : D := .str [48,49,50,51,52,53,54,55,56,57]
def sup : List (String × List String) := [("BadText", ["BadText", "TextError", "CreditError"])]
def exn : List String := ["CreditError", "TextError", "BadText"]
def xfs : List Str := ["line", "word"]
abbrev si_BadText : Stmt := initOf (top 5)
def i_BadText : InD := ⟨"BadText", "__init__", "BadText.__init__", defArgs si_BadText, defBody si_BadText, defScope si_BadText, xfs⟩
structure Env (w : World) (K : PySem.W.Frag) (mg : Str → Option Value) where
  a_stretch_end : Addr
  d_stretch_end : FuncData
  F_stretch_end : FunD K "stretch_end" "stretch_end" (defArgs s_stretch_end) (defBody s_stretch_end) (defScope s_stretch_end) [] [] a_stretch_end d_stretch_end
  g_stretch_end : mg "stretch_end" = some (.ref a_stretch_end)
  b_stretch_end : Binds K d_stretch_end ["line", "start", "let"] []
  a_lexemes_or_none : Addr
  d_lexemes_or_none : FuncData
  F_lexemes_or_none : FunD K "lexemes_or_none" "lexemes_or_none" (defArgs s_lexemes_or_none) (defBody s_lexemes_or_none) (defScope s_lexemes_or_none) [] [] a_lexemes_or_none d_lexemes_or_none
  g_lexemes_or_none : mg "lexemes_or_none" = some (.ref a_lexemes_or_none)
  b_lexemes_or_none : Binds K d_lexemes_or_none ["line"] []
  a_lexemes_of : Addr
  d_lexemes_of : FuncData
  F_lexemes_of : FunD K "lexemes_of" "lexemes_of" (defArgs s_lexemes_of) (defBody s_lexemes_of) (defScope s_lexemes_of) [] [] a_lexemes_of d_lexemes_of
  g_lexemes_of : mg "lexemes_of" = some (.ref a_lexemes_of)
  b_lexemes_of : Binds K d_lexemes_of ["line"] []
  a__law_pool : Addr
  d__law_pool : FuncData
  F__law_pool : FunD K "_law_pool" "_law_pool" (defArgs s__law_pool) (defBody s__law_pool) (defScope s__law_pool) [] [] a__law_pool d__law_pool
  g__law_pool : mg "_law_pool" = some (.ref a__law_pool)
  b__law_pool : Binds K d__law_pool ["script"] []
  a__law_draw : Addr
  d__law_draw : FuncData
  F__law_draw : FunD K "_law_draw" "_law_draw" (defArgs s__law_draw) (defBody s__law_draw) (defScope s__law_draw) [] [] a__law_draw d__law_draw
  g__law_draw : mg "_law_draw" = some (.ref a__law_draw)
  b__law_draw : Binds K d__law_draw ["pool", "many"] []
  a__law_same : Addr
  d__law_same : FuncData
  F__law_same : FunD K "_law_same" "_law_same" (defArgs s__law_same) (defBody s__law_same) (defScope s__law_same) [] [] a__law_same d__law_same
  g__law_same : mg "_law_same" = some (.ref a__law_same)
  b__law_same : Binds K d__law_same ["told", "due"] []
  a__law_due : Addr
  d__law_due : FuncData
  F__law_due : FunD K "_law_due" "_law_due" (defArgs s__law_due) (defBody s__law_due) (defScope s__law_due) [] [] a__law_due d__law_due
  g__law_due : mg "_law_due" = some (.ref a__law_due)
  b__law_due : Binds K d__law_due ["line"] []
  a__law_heard : Addr
  d__law_heard : FuncData
  F__law_heard : FunD K "_law_heard" "_law_heard" (defArgs s__law_heard) (defBody s__law_heard) (defScope s__law_heard) [] [] a__law_heard d__law_heard
  g__law_heard : mg "_law_heard" = some (.ref a__law_heard)
  b__law_heard : Binds K d__law_heard ["line"] []
  a__law_holds : Addr
  d__law_holds : FuncData
  F__law_holds : FunD K "_law_holds" "_law_holds" (defArgs s__law_holds) (defBody s__law_holds) (defScope s__law_holds) [] [] a__law_holds d__law_holds
  g__law_holds : mg "_law_holds" = some (.ref a__law_holds)
  b__law_holds : Binds K d__law_holds ["line"] []
  a__law_stretch : Addr
  d__law_stretch : FuncData
  F__law_stretch : FunD K "_law_stretch" "_law_stretch" (defArgs s__law_stretch) (defBody s__law_stretch) (defScope s__law_stretch) [] [] a__law_stretch d__law_stretch
  g__law_stretch : mg "_law_stretch" = some (.ref a__law_stretch)
  b__law_stretch : Binds K d__law_stretch ["pool"] []
  a__law_line : Addr
  d__law_line : FuncData
  F__law_line : FunD K "_law_line" "_law_line" (defArgs s__law_line) (defBody s__law_line) (defScope s__law_line) [] [] a__law_line d__law_line
  g__law_line : mg "_law_line" = some (.ref a__law_line)
  b__law_line : Binds K d__law_line ["pool"] []
  a__law_bent : Addr
  d__law_bent : FuncData
  F__law_bent : FunD K "_law_bent" "_law_bent" (defArgs s__law_bent) (defBody s__law_bent) (defScope s__law_bent) [] [] a__law_bent d__law_bent
  g__law_bent : mg "_law_bent" = some (.ref a__law_bent)
  b__law_bent : Binds K d__law_bent ["pool", "line"] []
  a_law : Addr
  d_law : FuncData
  F_law : FunD K "law" "law" (defArgs s_law) (defBody s_law) (defScope s_law) [] [] a_law d_law
  g_law : mg "law" = some (.ref a_law)
  b_law : Binds K d_law ["script"] []
  n_abs : mg "abs" = none
  n_bool : mg "bool" = none
  n_int : mg "int" = none
  n_isinstance : mg "isinstance" = none
  n_len : mg "len" = none
  n_list : mg "list" = none
  n_range : mg "range" = none
  n_str : mg "str" = none
  n_tuple : mg "tuple" = none
  k_BLANK : GlobD K w mg "BLANK" c_BLANK
  k_FIGURES : GlobD K w mg "FIGURES" c_FIGURES
  k_LETTERS : GlobD K w mg "LETTERS" c_LETTERS
  k_SIGNS : GlobD K w mg "SIGNS" c_SIGNS
  n_super : mg "super" = none
  X_ : Errs K mg sup exn xfs
  e_BadText : FuncData
  E_BadText : ErrD PP K i_BadText e_BadText
  B_BadText : Binds K e_BadText ["self", "line", "word"] []
  g_BadText : mg "BadText" = some (.ref (He.ga K "BadText"))
theorem si_sc_BadText : IScope ["self", "line", "word"] ["self", "line", "word"] (defScope si_BadText) := ⟨rfl, rfl, rfl, by decide +kernel, rfl, by decide +kernel, by decide +kernel, by decide +kernel, by decide +kernel, by decide +kernel⟩
theorem oki_BadText {w : World} {K : PySem.W.Frag} {mg : Str → Option Value} {base : Heap} (Γ : Env w K mg) : FnOk PP w K mg base (L2.CX PP w) 1 (iAd K i_BadText.x) Γ.e_BadText ["self", "line", "word"] (spI (He.ga K i_BadText.x) ["line", "word"]) :=
 fn_init2 Γ.E_BadText.ini si_sc_BadText Γ.n_super rfl rfl rfl (by decide +kernel) (Γ.E_BadText.hno _ (by decide +kernel)) (Γ.E_BadText.hno _ (by decide +kernel)) (by decide +kernel) (by decide +kernel) (by decide +kernel) (by decide +kernel) (by decide +kernel) (by decide +kernel) (fun _ _ _ => ⟨_, rfl⟩)
def fu_stretch_end_0 : List D → Mh → Nat := fun ρ _ => match lk ρ 0 with | .str s => s.length + 1 | _ => 0
def lb_stretch_end_0 : SS := (sAug 3 oAddI (eC (.int 1)))
def lc_stretch_end_1 : EB := (tAndB (tBin oLt (eVar 3) (eCall (one1 lenD) (aCons (eVar 0) aNil))) (tBin oIn (eBin oIx (eVar 0) (eVar 3)) (eVar 2)))
def m_stretch_end : SS := (sSeq (sSet 3 (eVar 1)) (sSeq (sWhile fu_stretch_end_0 lc_stretch_end_1 lb_stretch_end_0) (sRet (eVar 3))))
def F_stretch_end : OL := mkF 4 m_stretch_end
theorem ok_stretch_end {w : World} {K : PySem.W.Frag} {mg : Str → Option Value} {base : Heap} (Γ : Env w K mg) : FnOk PP w K mg base (L2.CX PP w) 1 Γ.a_stretch_end Γ.d_stretch_end ["line", "start", "let"] (spF K w mg 3 F_stretch_end) :=
 fn_ok (b := m_stretch_end) Γ.F_stretch_end sc_stretch_end rfl rfl fun cdv A outer s H E hr tk pw =>
 (jss_cons (js_set (je_var 1 rfl vi_stretch_end_1 nd_start cd_start) sc_stretch_end.nd lo_stretch_end_3) (jss_cons (js_while fu_stretch_end_0 pw (JW.jt (jw_and (jt_cmp os_lt (je_var 3 rfl vi_stretch_end_3 nd_end cd_end) (je_callB cs_len Γ.n_len bt_len (ja_cons (je_var 0 rfl vi_stretch_end_0 nd_line cd_line) ja_nil))) (jw_and1 (jt_cmp (os_in hr.units) (je_ix hr.units (je_var 0 rfl vi_stretch_end_0 nd_line cd_line) (je_var 3 rfl vi_stretch_end_3 nd_end cd_end)) (je_var 2 rfl vi_stretch_end_2 nd_let cd_let)))))
 (jss_one (js_aug is_add je_int sc_stretch_end.nd lo_stretch_end_3))) (jss_one (js_ret (je_var 3 rfl vi_stretch_end_3 nd_end cd_end)))))
def fu_lexemes_or_none_0 : List D → Mh → Nat := fun ρ _ => match lk ρ 0 with | .str s => s.length + 1 | _ => 0
def lb_lexemes_or_none_0 : SS := (sSeq (sSet 3 (eBin oIx (eVar 0) (eVar 2))) (sIf (tBin oEq (eVar 3) (eC c_BLANK))
 (sAug 2 oAddI (eC (.int 1)))
 (sIf (tBin oIn (eVar 3) (eC c_SIGNS))
 (sSeq (sExpr (eMeth .list mAppend (eVar 1) (aCons (eVar 3) aNil))) (sAug 2 oAddI (eC (.int 1))))
 (sIf (tBin oIn (eVar 3) (eC c_LETTERS))
 (sSeq (sSet 4 (eCallF 3 F_stretch_end (aCons (eVar 0) (aCons (eVar 2) (aCons (eBin oAdd (eC c_LETTERS) (eC c_FIGURES)) aNil))))) (sSeq (sExpr (eMeth .list mAppend (eVar 1) (aCons (eSl (eVar 0) (oSome (eVar 2)) (oSome (eVar 4))) aNil))) (sSet 2 (eVar 4))))
 (sIf (tBin oIn (eVar 3) (eC c_FIGURES))
 (sSeq (sSet 4 (eCallF 3 F_stretch_end (aCons (eVar 0) (aCons (eVar 2) (aCons (eBin oAdd (eC c_FIGURES) (eC (.str [46]))) aNil))))) (sSeq (sExpr (eMeth .list mAppend (eVar 1) (aCons (eSl (eVar 0) (oSome (eVar 2)) (oSome (eVar 4))) aNil))) (sSet 2 (eVar 4))))
 (sRet (eC .non)))))))
def lc_lexemes_or_none_1 : EB := (tBin oLt (eVar 2) (eCall (one1 lenD) (aCons (eVar 0) aNil)))
def m_lexemes_or_none : SS := (sSeq (sSet 1 (eMut aNil)) (sSeq (sSet 2 (eC (.int 0))) (sSeq (sWhile fu_lexemes_or_none_0 lc_lexemes_or_none_1 lb_lexemes_or_none_0) (sRet (eCall (one1 tupleD) (aCons (eVar 1) aNil))))))
def F_lexemes_or_none : OL := mkF 5 m_lexemes_or_none
theorem ok_lexemes_or_none {w : World} {K : PySem.W.Frag} {mg : Str → Option Value} {base : Heap} (Γ : Env w K mg) : FnOk PP w K mg base (L2.CX PP w) 2 Γ.a_lexemes_or_none Γ.d_lexemes_or_none ["line"] (spF K w mg 1 F_lexemes_or_none) :=
 fn_ok (b := m_lexemes_or_none) Γ.F_lexemes_or_none sc_lexemes_or_none rfl rfl fun cdv A outer s H E hr tk pw =>
 (jss_cons (js_set (je_mut ja_nil) sc_lexemes_or_none.nd lo_lexemes_or_none_1) (jss_cons (js_set je_int sc_lexemes_or_none.nd lo_lexemes_or_none_2) (jss_cons (js_while fu_lexemes_or_none_0 pw (jt_cmp os_lt (je_var 2 rfl vi_lexemes_or_none_2 nd_at cd_at) (je_callB cs_len Γ.n_len bt_len (ja_cons (je_var 0 rfl vi_lexemes_or_none_0 nd_line cd_line) ja_nil)))
 (jss_cons (js_set (je_ix hr.units (je_var 0 rfl vi_lexemes_or_none_0 nd_line cd_line) (je_var 2 rfl vi_lexemes_or_none_2 nd_at cd_at)) sc_lexemes_or_none.nd lo_lexemes_or_none_3) (jss_one (js_if (jt_cmp (os_eq hr.units) (je_var 3 rfl vi_lexemes_or_none_3 nd_sign cd_sign) (je_gl Γ.k_BLANK))
 (jss_one (js_aug is_add je_int sc_lexemes_or_none.nd lo_lexemes_or_none_2))
 (jss_one (js_if (jt_cmp (os_in hr.units) (je_var 3 rfl vi_lexemes_or_none_3 nd_sign cd_sign) (je_gl Γ.k_SIGNS))
 (jss_cons (js_expr (je_bm .list PySem.F.plainAttrs_list PySem.F.slot_list_append PySem.F.type_list_append md_append (je_var 1 rfl vi_lexemes_or_none_1 nd_found cd_found) (ja_cons (je_var 3 rfl vi_lexemes_or_none_3 nd_sign cd_sign) ja_nil))) (jss_one (js_aug is_add je_int sc_lexemes_or_none.nd lo_lexemes_or_none_2)))
 (jss_one (js_if (jt_cmp (os_in hr.units) (je_var 3 rfl vi_lexemes_or_none_3 nd_sign cd_sign) (je_gl Γ.k_LETTERS))
 (jss_cons (js_set (je_call ((ok_stretch_end Γ).mono (by decide)) rfl tk hr Γ.g_stretch_end Γ.F_stretch_end.kp Γ.b_stretch_end (ja_cons (je_var 0 rfl vi_lexemes_or_none_0 nd_line cd_line) (ja_cons (je_var 2 rfl vi_lexemes_or_none_2 nd_at cd_at) (ja_cons (je_bin os_add (je_gl Γ.k_LETTERS) (je_gl Γ.k_FIGURES)) ja_nil)))) sc_lexemes_or_none.nd lo_lexemes_or_none_4) (jss_cons (js_expr (je_bm .list PySem.F.plainAttrs_list PySem.F.slot_list_append PySem.F.type_list_append md_append (je_var 1 rfl vi_lexemes_or_none_1 nd_found cd_found) (ja_cons (je_slice (je_var 0 rfl vi_lexemes_or_none_0 nd_line cd_line) (jo_some (je_var 2 rfl vi_lexemes_or_none_2 nd_at cd_at)) (jo_some (je_var 4 rfl vi_lexemes_or_none_4 nd_end cd_end))) ja_nil))) (jss_one (js_set (je_var 4 rfl vi_lexemes_or_none_4 nd_end cd_end) sc_lexemes_or_none.nd lo_lexemes_or_none_2))))
 (jss_one (js_if (jt_cmp (os_in hr.units) (je_var 3 rfl vi_lexemes_or_none_3 nd_sign cd_sign) (je_gl Γ.k_FIGURES))
 (jss_cons (js_set (je_call ((ok_stretch_end Γ).mono (by decide)) rfl tk hr Γ.g_stretch_end Γ.F_stretch_end.kp Γ.b_stretch_end (ja_cons (je_var 0 rfl vi_lexemes_or_none_0 nd_line cd_line) (ja_cons (je_var 2 rfl vi_lexemes_or_none_2 nd_at cd_at) (ja_cons (je_bin os_add (je_gl Γ.k_FIGURES) (je_str [46] st0)) ja_nil)))) sc_lexemes_or_none.nd lo_lexemes_or_none_4) (jss_cons (js_expr (je_bm .list PySem.F.plainAttrs_list PySem.F.slot_list_append PySem.F.type_list_append md_append (je_var 1 rfl vi_lexemes_or_none_1 nd_found cd_found) (ja_cons (je_slice (je_var 0 rfl vi_lexemes_or_none_0 nd_line cd_line) (jo_some (je_var 2 rfl vi_lexemes_or_none_2 nd_at cd_at)) (jo_some (je_var 4 rfl vi_lexemes_or_none_4 nd_end cd_end))) ja_nil))) (jss_one (js_set (je_var 4 rfl vi_lexemes_or_none_4 nd_end cd_end) sc_lexemes_or_none.nd lo_lexemes_or_none_2))))
 (jss_one (js_ret je_non)))))))))))) (jss_one (js_ret (je_callTy cs_tuple Γ.n_tuple bt_tuple (ja_cons (je_var 1 rfl vi_lexemes_or_none_1 nd_found cd_found) ja_nil)))))))
def m_lexemes_of : SS := (sSeq (sSet 1 (eCallF 1 F_lexemes_or_none (aCons (eVar 0) aNil))) (sSeq (sIf (tIs (eUn oIs (eVar 1)))
 (sRaise "BadText" ["line", "word"] (aCons (eC (.int 1)) (aCons (eC (.str [115,105,103,110])) aNil)))
 sNil) (sRet (eVar 1))))
def F_lexemes_of : OL := mkF 2 m_lexemes_of
theorem ok_lexemes_of {w : World} {K : PySem.W.Frag} {mg : Str → Option Value} {base : Heap} (Γ : Env w K mg) : FnOk PP w K mg base (L2.CX PP w) 3 Γ.a_lexemes_of Γ.d_lexemes_of ["line"] (spF K w mg 1 F_lexemes_of) :=
 fn_ok (b := m_lexemes_of) Γ.F_lexemes_of sc_lexemes_of rfl rfl fun cdv A outer s H E hr tk pw =>
 (jss_cons (js_set (je_call ((ok_lexemes_or_none Γ).mono (by decide)) rfl tk hr Γ.g_lexemes_or_none Γ.F_lexemes_or_none.kp Γ.b_lexemes_or_none (ja_cons (je_var 0 rfl vi_lexemes_of_0 nd_line cd_line) ja_nil)) sc_lexemes_of.nd lo_lexemes_of_1) (jss_cons (js_if (jt_is (je_var 1 rfl vi_lexemes_of_1 nd_found cd_found))
 (jss_one (js_raiseE Γ.E_BadText rfl rfl (oki_BadText Γ) (hr.mono (by decide)) Γ.B_BadText tk rfl Γ.g_BadText (by decide +kernel) (by decide) (ja_cons je_int (ja_cons (je_str [115,105,103,110] st1) ja_nil))))
 jss_nil) (jss_one (js_ret (je_var 1 rfl vi_lexemes_of_1 nd_found cd_found)))))
def lb__law_pool_0 : SS := (sSeq (sSet 2 (eBin oMod (eCall (one1 absD) (aCons (eCall (one1 intV) (aCons (eVar 2) aNil)) aNil)) (eBin oShl (eC (.int 1)) (eC (.int 2000))))) (sSeq (sAsg (gSubD (eVar 1) (eC (.int 0))) (eBin oMod (eBin oAdd (eBin oAdd (eBin oMul (eBin oIx (eVar 1) (eC (.int 0))) (eC (.int 48271))) (eBin oMod (eVar 2) (eC (.int 2147483579)))) (eC (.int 3571))) (eC (.int 2147483579)))) (sIf (tBin oGe (eVar 2) (eBin oPow (eC (.int 10)) (eC (.int 18))))
 (sExpr (eMeth .list mAppend (eVar 1) (aCons (eVar 2) aNil)))
 sNil)))
def m__law_pool : SS := (sSeq (sSet 1 (eMut (aCons (eC (.int 225349)) aNil))) (sSeq (sFor (iAny (eSl (eVar 0) oNone (oSome (eC (.int 63))))) (gN 2) lb__law_pool_0) (sRet (eVar 1))))
def F__law_pool : OL := mkF 3 m__law_pool
theorem ok__law_pool {w : World} {K : PySem.W.Frag} {mg : Str → Option Value} {base : Heap} (Γ : Env w K mg) : FnOk PP w K mg base (L2.CX PP w) 1 Γ.a__law_pool Γ.d__law_pool ["script"] (spF K w mg 1 F__law_pool) :=
 fn_ok (b := m__law_pool) Γ.F__law_pool sc__law_pool rfl rfl fun cdv A outer s H E hr tk pw =>
 (jss_cons (js_set (je_mut (ja_cons je_int ja_nil)) sc__law_pool.nd lo__law_pool_1) (jss_cons (js_for pw rfl (ji_any (je_slice (je_var 0 rfl vi__law_pool_0 nd_script cd_script) jo_none (jo_some je_int))) (jg_name sc__law_pool.nd lo__law_pool_2)
 (jss_cons (js_set (je_bin os_mod (je_callB cs_abs Γ.n_abs bt_abs (ja_cons (je_callTy cs_int Γ.n_int bt_int (ja_cons (je_var 2 rfl vi__law_pool_2 nd_cell cd_cell) ja_nil)) ja_nil)) (je_bin os_shl je_int je_int)) sc__law_pool.nd lo__law_pool_2) (jss_cons (js_asg (je_bin os_mod (je_bin os_add (je_bin os_add (je_bin os_mul (je_ix hr.units (je_var 1 rfl vi__law_pool_1 nd_pool cd_pool) je_int) je_int) (je_bin os_mod (je_var 2 rfl vi__law_pool_2 nd_cell cd_cell) je_int)) je_int) je_int) (jg_sub hr.units (je_var 1 rfl vi__law_pool_1 nd_pool cd_pool) je_int)) (jss_one (js_if (jt_cmp os_ge (je_var 2 rfl vi__law_pool_2 nd_cell cd_cell) (je_bin os_pow je_int je_int))
 (jss_one (js_expr (je_bm .list PySem.F.plainAttrs_list PySem.F.slot_list_append PySem.F.type_list_append md_append (je_var 1 rfl vi__law_pool_1 nd_pool cd_pool) (ja_cons (je_var 2 rfl vi__law_pool_2 nd_cell cd_cell) ja_nil))))
 jss_nil))))) (jss_one (js_ret (je_var 1 rfl vi__law_pool_1 nd_pool cd_pool)))))
def m__law_draw : SS := (sSeq (sIf (tBin oGt (eCall (one1 lenD) (aCons (eVar 0) aNil)) (eC (.int 1)))
 (sSeq (sSet 2 (eCall (one1 intV) (aCons (eMeth .list mPop (eVar 0) aNil) aNil))) (sSeq (sIf (tBin oGe (eVar 2) (eVar 1))
 (sExpr (eMeth .list mAppend (eVar 0) (aCons (eBin oDiv (eVar 2) (eVar 1)) aNil)))
 sNil) (sRet (eBin oMod (eVar 2) (eVar 1)))))
 sNil) (sSeq (sAsg (gSubD (eVar 0) (eC (.int 0))) (eBin oMod (eBin oAdd (eBin oMul (eCall (one1 intV) (aCons (eBin oIx (eVar 0) (eC (.int 0))) aNil)) (eC (.int 39373))) (eC (.int 2087))) (eC (.int 2147483579)))) (sRet (eBin oMod (eCall (one1 intV) (aCons (eBin oDiv (eBin oIx (eVar 0) (eC (.int 0))) (eC (.int 197))) aNil)) (eVar 1)))))
def F__law_draw : OL := mkF 3 m__law_draw
theorem ok__law_draw {w : World} {K : PySem.W.Frag} {mg : Str → Option Value} {base : Heap} (Γ : Env w K mg) : FnOk PP w K mg base (L2.CX PP w) 1 Γ.a__law_draw Γ.d__law_draw ["pool", "many"] (spF K w mg 2 F__law_draw) :=
 fn_ok (b := m__law_draw) Γ.F__law_draw sc__law_draw rfl rfl fun cdv A outer s H E hr tk pw =>
 (jss_cons (js_if (jt_cmp os_gt (je_callB cs_len Γ.n_len bt_len (ja_cons (je_var 0 rfl vi__law_draw_0 nd_pool cd_pool) ja_nil)) je_int)
 (jss_cons (js_set (je_callTy cs_int Γ.n_int bt_int (ja_cons (je_bm0 .list PySem.F.plainAttrs_list PySem.F.slot_list_pop PySem.F.type_list_pop md_pop (je_var 0 rfl vi__law_draw_0 nd_pool cd_pool)) ja_nil)) sc__law_draw.nd lo__law_draw_2) (jss_cons (js_if (jt_cmp os_ge (je_var 2 rfl vi__law_draw_2 nd_cell cd_cell) (je_var 1 rfl vi__law_draw_1 nd_many cd_many))
 (jss_one (js_expr (je_bm .list PySem.F.plainAttrs_list PySem.F.slot_list_append PySem.F.type_list_append md_append (je_var 0 rfl vi__law_draw_0 nd_pool cd_pool) (ja_cons (je_bin os_div (je_var 2 rfl vi__law_draw_2 nd_cell cd_cell) (je_var 1 rfl vi__law_draw_1 nd_many cd_many)) ja_nil))))
 jss_nil) (jss_one (js_ret (je_bin os_mod (je_var 2 rfl vi__law_draw_2 nd_cell cd_cell) (je_var 1 rfl vi__law_draw_1 nd_many cd_many))))))
 jss_nil) (jss_cons (js_asg (je_bin os_mod (je_bin os_add (je_bin os_mul (je_callTy cs_int Γ.n_int bt_int (ja_cons (je_ix hr.units (je_var 0 rfl vi__law_draw_0 nd_pool cd_pool) je_int) ja_nil)) je_int) je_int) je_int) (jg_sub hr.units (je_var 0 rfl vi__law_draw_0 nd_pool cd_pool) je_int)) (jss_one (js_ret (je_bin os_mod (je_callTy cs_int Γ.n_int bt_int (ja_cons (je_bin os_div (je_ix hr.units (je_var 0 rfl vi__law_draw_0 nd_pool cd_pool) je_int) je_int) ja_nil)) (je_var 1 rfl vi__law_draw_1 nd_many cd_many))))))
def fu__law_same_0 : List D → Mh → Nat := fun ρ _ => szD (lk ρ 1) + 1
def lb__law_same_0 : SS := (sSeq (sAsg (gTupD 2 (gsCons (gN 3) (gsCons (gN 4) gsNil))) (eMeth .list mPop (eVar 2) aNil)) (sIf (tTru (eIsi [.tup, .lst] (eVar 4)))
 (sSeq (sIf (tOrB (tNotB (tTru (eIsi [.tup, .lst] (eVar 3)))) (tOrB (tBin oNe (eIsi [.lst] (eVar 3)) (eIsi [.lst] (eVar 4))) (tBin oNe (eCall (one1 lenD) (aCons (eVar 3) aNil)) (eCall (one1 lenD) (aCons (eVar 4) aNil)))))
 (sRet (eC (.bl false)))
 sNil) (sExpr (eMeth .list mExtend (eVar 2) (aCons (eLc [5] (iRng1 (aCons (eCall (one1 lenD) (aCons (eVar 4) aNil)) aNil)) (gN 5) tYesD (eTup (aCons (eBin oIx (eVar 3) (eVar 5)) (aCons (eBin oIx (eVar 4) (eVar 5)) aNil)))) aNil))))
 (sIf (tIs (eUn oIs (eVar 4)))
 (sIf (tIs (eUn oIsNot (eVar 3)))
 (sRet (eC (.bl false)))
 sNil)
 (sIf (tTru (eIsi [.str] (eVar 4)))
 (sIf (tOrB (tNotB (tTru (eIsi [.str] (eVar 3)))) (tBin oNe (eVar 3) (eVar 4)))
 (sRet (eC (.bl false)))
 sNil)
 (sIf (tTru (eIsi [.bl] (eVar 4)))
 (sIf (tOrB (tNotB (tTru (eIsi [.bl] (eVar 3)))) (tBin oNe (eVar 3) (eVar 4)))
 (sRet (eC (.bl false)))
 sNil)
 (sIf (tOrB (tTru (eIsi [.bl] (eVar 3))) (tOrB (tNotB (tTru (eIsi [.int] (eVar 3)))) (tBin oNe (eVar 3) (eVar 4))))
 (sRet (eC (.bl false)))
 sNil))))))
def lc__law_same_1 : EB := (tBin oGt (eCall (one1 lenD) (aCons (eVar 2) aNil)) (eC (.int 0)))
def m__law_same : SS := (sSeq (sSet 2 (eMut (aCons (eTup (aCons (eVar 0) (aCons (eVar 1) aNil))) aNil))) (sSeq (sWhile fu__law_same_0 lc__law_same_1 lb__law_same_0) (sRet (eC (.bl true)))))
def F__law_same : OL := mkF 6 m__law_same
theorem ok__law_same {w : World} {K : PySem.W.Frag} {mg : Str → Option Value} {base : Heap} (Γ : Env w K mg) : FnOk PP w K mg base (L2.CX PP w) 1 Γ.a__law_same Γ.d__law_same ["told", "due"] (spF K w mg 2 F__law_same) :=
 fn_ok (b := m__law_same) Γ.F__law_same sc__law_same rfl rfl fun cdv A outer s H E hr tk pw =>
 (jss_cons (js_set (je_mut (ja_cons (je_tup (ja_cons (je_var 0 rfl vi__law_same_0 nd_told cd_told) (ja_cons (je_var 1 rfl vi__law_same_1 nd_due cd_due) ja_nil))) ja_nil)) sc__law_same.nd lo__law_same_2) (jss_cons (js_while fu__law_same_0 pw (jt_cmp os_gt (je_callB cs_len Γ.n_len bt_len (ja_cons (je_var 2 rfl vi__law_same_2 nd_rest cd_rest) ja_nil)) je_int)
 (jss_cons (js_asg (je_bm0 .list PySem.F.plainAttrs_list PySem.F.slot_list_pop PySem.F.type_list_pop md_pop (je_var 2 rfl vi__law_same_2 nd_rest cd_rest)) (jg_tup rfl (jgs_cons (jg_name sc__law_same.nd lo__law_same_3) (jgs_cons (jg_name sc__law_same.nd lo__law_same_4) jgs_nil)))) (jss_one (js_if (jt_tru (je_isiT (by decide) (by decide) (tn_cons (ty_name .tup Γ.n_tuple bt_tuple) (tn_cons (ty_name .lst Γ.n_list bt_list) tn_nil)) Γ.n_isinstance bt_isinstance (je_var 4 rfl vi__law_same_4 nd_other cd_other)))
 (jss_cons (js_if (JW.jt (jw_or (jt_not (jt_tru (je_isiT (by decide) (by decide) (tn_cons (ty_name .tup Γ.n_tuple bt_tuple) (tn_cons (ty_name .lst Γ.n_list bt_list) tn_nil)) Γ.n_isinstance bt_isinstance (je_var 3 rfl vi__law_same_3 nd_one cd_one)))) (jw_or (jt_cmp (os_ne hr.units) (je_isi1 (by decide) (ty_name .lst Γ.n_list bt_list) Γ.n_isinstance bt_isinstance (je_var 3 rfl vi__law_same_3 nd_one cd_one)) (je_isi1 (by decide) (ty_name .lst Γ.n_list bt_list) Γ.n_isinstance bt_isinstance (je_var 4 rfl vi__law_same_4 nd_other cd_other))) (jw_or1 (jt_cmp (os_ne hr.units) (je_callB cs_len Γ.n_len bt_len (ja_cons (je_var 3 rfl vi__law_same_3 nd_one cd_one) ja_nil)) (je_callB cs_len Γ.n_len bt_len (ja_cons (je_var 4 rfl vi__law_same_4 nd_other cd_other) ja_nil)))))))
 (jss_one (js_ret je_bl))
 jss_nil) (jss_one (js_expr (je_bm .list PySem.F.plainAttrs_list PySem.F.slot_list_extend PySem.F.type_list_extend md_extend (je_var 2 rfl vi__law_same_2 nd_rest cd_rest) (ja_cons (je_lc (own := [("at", 5)]) rfl sc__law_same.nd (blk_of (by kernel_rfl)) (ji_range1 Γ.n_range (ja_cons (je_callB cs_len Γ.n_len bt_len (ja_cons (je_var 4 rfl vi__law_same_4 nd_other cd_other) ja_nil)) ja_nil)) (fun _ _ _ _ _ => (jgo_name sc__law_same.nd (.inl rfl) (by decide))) (fun _ _ _ _ _ => jts_nil) (fun _ _ _ _ _ => (je_tup (ja_cons (je_ix hr.units (je_var 3) (je_var 5)) (ja_cons (je_ix hr.units (je_var 4) (je_var 5)) ja_nil))))) ja_nil)))))
 (jss_one (js_if (jt_is (je_var 4 rfl vi__law_same_4 nd_other cd_other))
 (jss_one (js_if (jt_isnot (je_var 3 rfl vi__law_same_3 nd_one cd_one))
 (jss_one (js_ret je_bl))
 jss_nil))
 (jss_one (js_if (jt_tru (je_isi1 (by decide) (ty_name .str Γ.n_str bt_str) Γ.n_isinstance bt_isinstance (je_var 4 rfl vi__law_same_4 nd_other cd_other)))
 (jss_one (js_if (JW.jt (jw_or (jt_not (jt_tru (je_isi1 (by decide) (ty_name .str Γ.n_str bt_str) Γ.n_isinstance bt_isinstance (je_var 3 rfl vi__law_same_3 nd_one cd_one)))) (jw_or1 (jt_cmp (os_ne hr.units) (je_var 3 rfl vi__law_same_3 nd_one cd_one) (je_var 4 rfl vi__law_same_4 nd_other cd_other)))))
 (jss_one (js_ret je_bl))
 jss_nil))
 (jss_one (js_if (jt_tru (je_isi1 (by decide) (ty_name .bl Γ.n_bool bt_bool) Γ.n_isinstance bt_isinstance (je_var 4 rfl vi__law_same_4 nd_other cd_other)))
 (jss_one (js_if (JW.jt (jw_or (jt_not (jt_tru (je_isi1 (by decide) (ty_name .bl Γ.n_bool bt_bool) Γ.n_isinstance bt_isinstance (je_var 3 rfl vi__law_same_3 nd_one cd_one)))) (jw_or1 (jt_cmp (os_ne hr.units) (je_var 3 rfl vi__law_same_3 nd_one cd_one) (je_var 4 rfl vi__law_same_4 nd_other cd_other)))))
 (jss_one (js_ret je_bl))
 jss_nil))
 (jss_one (js_if (JW.jt (jw_or (jt_tru (je_isi1 (by decide) (ty_name .bl Γ.n_bool bt_bool) Γ.n_isinstance bt_isinstance (je_var 3 rfl vi__law_same_3 nd_one cd_one))) (jw_or (jt_not (jt_tru (je_isi1 (by decide) (ty_name .int Γ.n_int bt_int) Γ.n_isinstance bt_isinstance (je_var 3 rfl vi__law_same_3 nd_one cd_one)))) (jw_or1 (jt_cmp (os_ne hr.units) (je_var 3 rfl vi__law_same_3 nd_one cd_one) (je_var 4 rfl vi__law_same_4 nd_other cd_other))))))
 (jss_one (js_ret je_bl))
 jss_nil)))))))))))) (jss_one (js_ret je_bl))))
def lb__law_due_0 : SS := (sSeq (sSet 4 (eBin oIn (eVar 3) (eC (.str [97,98,99,100,101,102,103,104,105,106,107,108,109,110,111,112,113,114,115,116,117,118,119,120,121,122])))) (sSeq (sSet 5 (eBin oIn (eVar 3) (eC (.str [48,49,50,51,52,53,54,55,56,57])))) (sIf (tAndB (tBin oEq (eVar 2) (eC (.str [110,97,109,101]))) (tOrB (tTru (eVar 4)) (tTru (eVar 5))))
 (sAsg (gSubD (eVar 1) (eUn oNeg (eC (.int 1)))) (eBin oAdd (eBin oIx (eVar 1) (eUn oNeg (eC (.int 1)))) (eVar 3)))
 (sIf (tAndB (tBin oEq (eVar 2) (eC (.str [110,117,109,98,101,114]))) (tOrB (tTru (eVar 5)) (tBin oEq (eVar 3) (eC (.str [46])))))
 (sAsg (gSubD (eVar 1) (eUn oNeg (eC (.int 1)))) (eBin oAdd (eBin oIx (eVar 1) (eUn oNeg (eC (.int 1)))) (eVar 3)))
 (sIf (tOrB (tTru (eVar 4)) (tTru (eVar 5)))
 (sSeq (sSet 2 (eIf (tTru (eVar 4)) (eC (.str [110,97,109,101])) (eC (.str [110,117,109,98,101,114])))) (sExpr (eMeth .list mAppend (eVar 1) (aCons (eVar 3) aNil))))
 (sIf (tBin oIn (eVar 3) (eC (.str [43,45,42,47,40,41])))
 (sSeq (sSet 2 (eC (.str []))) (sExpr (eMeth .list mAppend (eVar 1) (aCons (eVar 3) aNil))))
 (sIf (tBin oEq (eVar 3) (eC (.str [32])))
 (sSet 2 (eC (.str [])))
 (sRet (eC .non)))))))))
def m__law_due : SS := (sSeq (sSet 1 (eMut aNil)) (sSeq (sSet 2 (eC (.str []))) (sSeq (sFor (iAny (eVar 0)) (gN 3) lb__law_due_0) (sRet (eCall (one1 tupleD) (aCons (eVar 1) aNil))))))
def F__law_due : OL := mkF 6 m__law_due
theorem ok__law_due {w : World} {K : PySem.W.Frag} {mg : Str → Option Value} {base : Heap} (Γ : Env w K mg) : FnOk PP w K mg base (L2.CX PP w) 1 Γ.a__law_due Γ.d__law_due ["line"] (spF K w mg 1 F__law_due) :=
 fn_ok (b := m__law_due) Γ.F__law_due sc__law_due rfl rfl fun cdv A outer s H E hr tk pw =>
 (jss_cons (js_set (je_mut ja_nil) sc__law_due.nd lo__law_due_1) (jss_cons (js_set (je_str [] st2) sc__law_due.nd lo__law_due_2) (jss_cons (js_for pw rfl (ji_any (je_var 0 rfl vi__law_due_0 nd_line cd_line)) (jg_name sc__law_due.nd lo__law_due_3)
 (jss_cons (js_set (je_cmp (os_in hr.units) (je_var 3 rfl vi__law_due_3 nd_sign cd_sign) (je_str [97,98,99,100,101,102,103,104,105,106,107,108,109,110,111,112,113,114,115,116,117,118,119,120,121,122] st3)) sc__law_due.nd lo__law_due_4) (jss_cons (js_set (je_cmp (os_in hr.units) (je_var 3 rfl vi__law_due_3 nd_sign cd_sign) (je_str [48,49,50,51,52,53,54,55,56,57] st4)) sc__law_due.nd lo__law_due_5) (jss_one (js_if (JW.jt (jw_and (jt_cmp (os_eq hr.units) (je_var 2 rfl vi__law_due_2 nd_state cd_state) (je_str [110,97,109,101] st5)) (jw_and1 (JW.jt (jw_or (jt_tru (je_var 4 rfl vi__law_due_4 nd_letter cd_letter)) (jw_or1 (jt_tru (je_var 5 rfl vi__law_due_5 nd_figure cd_figure))))))))
 (jss_one (js_asg (je_bin os_add (je_ix hr.units (je_var 1 rfl vi__law_due_1 nd_told cd_told) (je_un us_neg je_int)) (je_var 3 rfl vi__law_due_3 nd_sign cd_sign)) (jg_sub hr.units (je_var 1 rfl vi__law_due_1 nd_told cd_told) (je_un us_neg je_int))))
 (jss_one (js_if (JW.jt (jw_and (jt_cmp (os_eq hr.units) (je_var 2 rfl vi__law_due_2 nd_state cd_state) (je_str [110,117,109,98,101,114] st6)) (jw_and1 (JW.jt (jw_or (jt_tru (je_var 5 rfl vi__law_due_5 nd_figure cd_figure)) (jw_or1 (jt_cmp (os_eq hr.units) (je_var 3 rfl vi__law_due_3 nd_sign cd_sign) (je_str [46] st0))))))))
 (jss_one (js_asg (je_bin os_add (je_ix hr.units (je_var 1 rfl vi__law_due_1 nd_told cd_told) (je_un us_neg je_int)) (je_var 3 rfl vi__law_due_3 nd_sign cd_sign)) (jg_sub hr.units (je_var 1 rfl vi__law_due_1 nd_told cd_told) (je_un us_neg je_int))))
 (jss_one (js_if (JW.jt (jw_or (jt_tru (je_var 4 rfl vi__law_due_4 nd_letter cd_letter)) (jw_or1 (jt_tru (je_var 5 rfl vi__law_due_5 nd_figure cd_figure)))))
 (jss_cons (js_set (je_if (jt_tru (je_var 4 rfl vi__law_due_4 nd_letter cd_letter)) (je_str [110,97,109,101] st5) (je_str [110,117,109,98,101,114] st6)) sc__law_due.nd lo__law_due_2) (jss_one (js_expr (je_bm .list PySem.F.plainAttrs_list PySem.F.slot_list_append PySem.F.type_list_append md_append (je_var 1 rfl vi__law_due_1 nd_told cd_told) (ja_cons (je_var 3 rfl vi__law_due_3 nd_sign cd_sign) ja_nil)))))
 (jss_one (js_if (jt_cmp (os_in hr.units) (je_var 3 rfl vi__law_due_3 nd_sign cd_sign) (je_str [43,45,42,47,40,41] st7))
 (jss_cons (js_set (je_str [] st2) sc__law_due.nd lo__law_due_2) (jss_one (js_expr (je_bm .list PySem.F.plainAttrs_list PySem.F.slot_list_append PySem.F.type_list_append md_append (je_var 1 rfl vi__law_due_1 nd_told cd_told) (ja_cons (je_var 3 rfl vi__law_due_3 nd_sign cd_sign) ja_nil)))))
 (jss_one (js_if (jt_cmp (os_eq hr.units) (je_var 3 rfl vi__law_due_3 nd_sign cd_sign) (je_str [32] st8))
 (jss_one (js_set (je_str [] st2) sc__law_due.nd lo__law_due_2))
 (jss_one (js_ret je_non))))))))))))))) (jss_one (js_ret (je_callTy cs_tuple Γ.n_tuple bt_tuple (ja_cons (je_var 1 rfl vi__law_due_1 nd_told cd_told) ja_nil)))))))
def m__law_heard : SS := (sSeq (sTryAs 1 (fun c => exT sup c "CreditError") (sRet (eTup (aCons (eC (.str [116,111,108,100])) (aCons (eCallF 1 F_lexemes_of (aCons (eVar 0) aNil)) aNil))))
 (fun c fs => (sIf (tAndB (tTru (eXi (exT sup c "BadText"))) (tTru (eXi (exT sup c "TextError"))))
 (sRet (eTup (aCons (eC (.str [116,101,120,116])) (aCons (eXf fs "line") (aCons (eXf fs "word") aNil)))))
 sNil))) (sRet (eTup (aCons (eC (.str [111,100,100])) aNil))))
def F__law_heard : OL := mkF 2 m__law_heard
theorem ok__law_heard {w : World} {K : PySem.W.Frag} {mg : Str → Option Value} {base : Heap} (Γ : Env w K mg) : FnOk PP w K mg base (L2.CX PP w) 4 Γ.a__law_heard Γ.d__law_heard ["line"] (spF K w mg 1 F__law_heard) :=
 fn_ok (b := m__law_heard) Γ.F__law_heard sc__law_heard rfl rfl fun cdv A outer s H E hr tk pw =>
 (jss_cons (js_try_as rfl rfl sc__law_heard.nd lk__law_heard_1 (takes1 Γ.X_ rfl (by decide)) tk (fun W pn xe tkW pwW => (jss_one (js_ret (je_tup (ja_cons (je_str [116,111,108,100] st9) (ja_cons (je_call ((ok_lexemes_of Γ).mono (by decide)) rfl tkW hr Γ.g_lexemes_of Γ.F_lexemes_of.kp Γ.b_lexemes_of (ja_cons (je_var 0 rfl vi__law_heard_0 nd_line cd_line) ja_nil)) ja_nil))))))
 (fun a oe pn cls dd c fs hcs hcl hz hfv => (jss_one (js_if (JW.jt (jw_and (jt_tru (je_xiE Γ.X_ hcs hcl hz hfv rfl (by decide) rfl vi__law_heard_1 nd_e cd_e Γ.n_isinstance bt_isinstance)) (jw_and1 (jt_tru (je_xiE Γ.X_ hcs hcl hz hfv rfl (by decide) rfl vi__law_heard_1 nd_e cd_e Γ.n_isinstance bt_isinstance)))))
 (jss_one (js_ret (je_tup (ja_cons (je_str [116,101,120,116] st10) (ja_cons (je_xfE Γ.X_ hcs hcl hz hfv rfl (by decide +kernel) rfl vi__law_heard_1 nd_e cd_e) (ja_cons (je_xfE Γ.X_ hcs hcl hz hfv rfl (by decide +kernel) rfl vi__law_heard_1 nd_e cd_e) ja_nil))))))
 jss_nil)))) (jss_one (js_ret (je_tup (ja_cons (je_str [111,100,100] st11) ja_nil)))))
def m__law_holds : SS := (sSeq (sSet 1 (eCallF 1 F__law_due (aCons (eVar 0) aNil))) (sRet (eCallF 2 F__law_same (aCons (eCallF 1 F__law_heard (aCons (eVar 0) aNil)) (aCons (eIf (tIs (eUn oIs (eVar 1))) (eTup (aCons (eC (.str [116,101,120,116])) (aCons (eC (.int 1)) (aCons (eC (.str [115,105,103,110])) aNil)))) (eTup (aCons (eC (.str [116,111,108,100])) (aCons (eVar 1) aNil)))) aNil)))))
def F__law_holds : OL := mkF 2 m__law_holds
theorem ok__law_holds {w : World} {K : PySem.W.Frag} {mg : Str → Option Value} {base : Heap} (Γ : Env w K mg) : FnOk PP w K mg base (L2.CX PP w) 5 Γ.a__law_holds Γ.d__law_holds ["line"] (spF K w mg 1 F__law_holds) :=
 fn_ok (b := m__law_holds) Γ.F__law_holds sc__law_holds rfl rfl fun cdv A outer s H E hr tk pw =>
 (jss_cons (js_set (je_call ((ok__law_due Γ).mono (by decide)) rfl tk hr Γ.g__law_due Γ.F__law_due.kp Γ.b__law_due (ja_cons (je_var 0 rfl vi__law_holds_0 nd_line cd_line) ja_nil)) sc__law_holds.nd lo__law_holds_1) (jss_one (js_ret (je_call ((ok__law_same Γ).mono (by decide)) rfl tk hr Γ.g__law_same Γ.F__law_same.kp Γ.b__law_same (ja_cons (je_call ((ok__law_heard Γ).mono (by decide)) rfl tk hr Γ.g__law_heard Γ.F__law_heard.kp Γ.b__law_heard (ja_cons (je_var 0 rfl vi__law_holds_0 nd_line cd_line) ja_nil)) (ja_cons (je_if (jt_is (je_var 1 rfl vi__law_holds_1 nd_due cd_due)) (je_tup (ja_cons (je_str [116,101,120,116] st10) (ja_cons je_int (ja_cons (je_str [115,105,103,110] st1) ja_nil)))) (je_tup (ja_cons (je_str [116,111,108,100] st9) (ja_cons (je_var 1 rfl vi__law_holds_1 nd_due cd_due) ja_nil)))) ja_nil))))))
def lb__law_stretch_0 : SS := (sIf (tBin oEq (eVar 1) (eC (.int 1)))
 (sSet 2 (eBin oAdd (eVar 2) (eBin oIx (eC (.str [97,122,48,57,98,113])) (eCallF 2 F__law_draw (aCons (eVar 0) (aCons (eC (.int 6)) aNil))))))
 (sSet 2 (eBin oAdd (eVar 2) (eBin oIx (eC (.str [48,46,57,46,49,50])) (eCallF 2 F__law_draw (aCons (eVar 0) (aCons (eC (.int 6)) aNil)))))))
def m__law_stretch : SS := (sSeq (sSet 1 (eCallF 2 F__law_draw (aCons (eVar 0) (aCons (eC (.int 4)) aNil)))) (sSeq (sIf (tBin oEq (eVar 1) (eC (.int 0)))
 (sRet (eBin oIx (eC (.str [43,45,42,47,40,41])) (eCallF 2 F__law_draw (aCons (eVar 0) (aCons (eC (.int 6)) aNil)))))
 sNil) (sSeq (sSet 2 (eIf (tBin oEq (eVar 1) (eC (.int 1))) (eBin oIx (eC (.str [97,98,109,120,121,122])) (eCallF 2 F__law_draw (aCons (eVar 0) (aCons (eC (.int 6)) aNil)))) (eBin oIx (eC (.str [48,49,50,51,52,53,54,55,56,57])) (eCallF 2 F__law_draw (aCons (eVar 0) (aCons (eC (.int 10)) aNil)))))) (sSeq (sFor (iRng1 (aCons (eCallF 2 F__law_draw (aCons (eVar 0) (aCons (eC (.int 7)) aNil))) aNil)) (gN 3) lb__law_stretch_0) (sRet (eVar 2))))))
def F__law_stretch : OL := mkF 4 m__law_stretch
theorem ok__law_stretch {w : World} {K : PySem.W.Frag} {mg : Str → Option Value} {base : Heap} (Γ : Env w K mg) : FnOk PP w K mg base (L2.CX PP w) 2 Γ.a__law_stretch Γ.d__law_stretch ["pool"] (spF K w mg 1 F__law_stretch) :=
 fn_ok (b := m__law_stretch) Γ.F__law_stretch sc__law_stretch rfl rfl fun cdv A outer s H E hr tk pw =>
 (jss_cons (js_set (je_call ((ok__law_draw Γ).mono (by decide)) rfl tk hr Γ.g__law_draw Γ.F__law_draw.kp Γ.b__law_draw (ja_cons (je_var 0 rfl vi__law_stretch_0 nd_pool cd_pool) (ja_cons je_int ja_nil))) sc__law_stretch.nd lo__law_stretch_1) (jss_cons (js_if (jt_cmp (os_eq hr.units) (je_var 1 rfl vi__law_stretch_1 nd_habit cd_habit) je_int)
 (jss_one (js_ret (je_ix hr.units (je_str [43,45,42,47,40,41] st7) (je_call ((ok__law_draw Γ).mono (by decide)) rfl tk hr Γ.g__law_draw Γ.F__law_draw.kp Γ.b__law_draw (ja_cons (je_var 0 rfl vi__law_stretch_0 nd_pool cd_pool) (ja_cons je_int ja_nil))))))
 jss_nil) (jss_cons (js_set (je_if (jt_cmp (os_eq hr.units) (je_var 1 rfl vi__law_stretch_1 nd_habit cd_habit) je_int) (je_ix hr.units (je_str [97,98,109,120,121,122] st12) (je_call ((ok__law_draw Γ).mono (by decide)) rfl tk hr Γ.g__law_draw Γ.F__law_draw.kp Γ.b__law_draw (ja_cons (je_var 0 rfl vi__law_stretch_0 nd_pool cd_pool) (ja_cons je_int ja_nil)))) (je_ix hr.units (je_str [48,49,50,51,52,53,54,55,56,57] st4) (je_call ((ok__law_draw Γ).mono (by decide)) rfl tk hr Γ.g__law_draw Γ.F__law_draw.kp Γ.b__law_draw (ja_cons (je_var 0 rfl vi__law_stretch_0 nd_pool cd_pool) (ja_cons je_int ja_nil))))) sc__law_stretch.nd lo__law_stretch_2) (jss_cons (js_for pw rfl (ji_range1 Γ.n_range (ja_cons (je_call ((ok__law_draw Γ).mono (by decide)) rfl tk hr Γ.g__law_draw Γ.F__law_draw.kp Γ.b__law_draw (ja_cons (je_var 0 rfl vi__law_stretch_0 nd_pool cd_pool) (ja_cons je_int ja_nil))) ja_nil)) (jg_name sc__law_stretch.nd lo__law_stretch_3)
 (jss_one (js_if (jt_cmp (os_eq hr.units) (je_var 1 rfl vi__law_stretch_1 nd_habit cd_habit) je_int)
 (jss_one (js_set (je_bin os_add (je_var 2 rfl vi__law_stretch_2 nd_text cd_text) (je_ix hr.units (je_str [97,122,48,57,98,113] st13) (je_call ((ok__law_draw Γ).mono (by decide)) rfl tk hr Γ.g__law_draw Γ.F__law_draw.kp Γ.b__law_draw (ja_cons (je_var 0 rfl vi__law_stretch_0 nd_pool cd_pool) (ja_cons je_int ja_nil))))) sc__law_stretch.nd lo__law_stretch_2))
 (jss_one (js_set (je_bin os_add (je_var 2 rfl vi__law_stretch_2 nd_text cd_text) (je_ix hr.units (je_str [48,46,57,46,49,50] st14) (je_call ((ok__law_draw Γ).mono (by decide)) rfl tk hr Γ.g__law_draw Γ.F__law_draw.kp Γ.b__law_draw (ja_cons (je_var 0 rfl vi__law_stretch_0 nd_pool cd_pool) (ja_cons je_int ja_nil))))) sc__law_stretch.nd lo__law_stretch_2))))) (jss_one (js_ret (je_var 2 rfl vi__law_stretch_2 nd_text cd_text)))))))
def lb__law_line_0 : SS := (sSet 2 (eBin oAdd (eBin oAdd (eVar 2) (eCallF 1 F__law_stretch (aCons (eVar 0) aNil))) (eBin oMul (eC (.str [32])) (eIf (tBin oLt (eVar 1) (eC (.int 2))) (eCallF 2 F__law_draw (aCons (eVar 0) (aCons (eBin oAdd (eC (.int 2)) (eVar 1)) aNil))) (eBin oAdd (eC (.int 1)) (eCallF 2 F__law_draw (aCons (eVar 0) (aCons (eC (.int 2)) aNil))))))))
def m__law_line : SS := (sSeq (sSet 1 (eCallF 2 F__law_draw (aCons (eVar 0) (aCons (eC (.int 3)) aNil)))) (sSeq (sSet 2 (eBin oMul (eC (.str [32])) (eCallF 2 F__law_draw (aCons (eVar 0) (aCons (eC (.int 3)) aNil))))) (sSeq (sFor (iRng1 (aCons (eCallF 2 F__law_draw (aCons (eVar 0) (aCons (eC (.int 12)) aNil))) aNil)) (gN 3) lb__law_line_0) (sRet (eVar 2)))))
def F__law_line : OL := mkF 4 m__law_line
theorem ok__law_line {w : World} {K : PySem.W.Frag} {mg : Str → Option Value} {base : Heap} (Γ : Env w K mg) : FnOk PP w K mg base (L2.CX PP w) 3 Γ.a__law_line Γ.d__law_line ["pool"] (spF K w mg 1 F__law_line) :=
 fn_ok (b := m__law_line) Γ.F__law_line sc__law_line rfl rfl fun cdv A outer s H E hr tk pw =>
 (jss_cons (js_set (je_call ((ok__law_draw Γ).mono (by decide)) rfl tk hr Γ.g__law_draw Γ.F__law_draw.kp Γ.b__law_draw (ja_cons (je_var 0 rfl vi__law_line_0 nd_pool cd_pool) (ja_cons je_int ja_nil))) sc__law_line.nd lo__law_line_1) (jss_cons (js_set (je_bin os_mul (je_str [32] st8) (je_call ((ok__law_draw Γ).mono (by decide)) rfl tk hr Γ.g__law_draw Γ.F__law_draw.kp Γ.b__law_draw (ja_cons (je_var 0 rfl vi__law_line_0 nd_pool cd_pool) (ja_cons je_int ja_nil)))) sc__law_line.nd lo__law_line_2) (jss_cons (js_for pw rfl (ji_range1 Γ.n_range (ja_cons (je_call ((ok__law_draw Γ).mono (by decide)) rfl tk hr Γ.g__law_draw Γ.F__law_draw.kp Γ.b__law_draw (ja_cons (je_var 0 rfl vi__law_line_0 nd_pool cd_pool) (ja_cons je_int ja_nil))) ja_nil)) (jg_name sc__law_line.nd lo__law_line_3)
 (jss_one (js_set (je_bin os_add (je_bin os_add (je_var 2 rfl vi__law_line_2 nd_line cd_line) (je_call ((ok__law_stretch Γ).mono (by decide)) rfl tk hr Γ.g__law_stretch Γ.F__law_stretch.kp Γ.b__law_stretch (ja_cons (je_var 0 rfl vi__law_line_0 nd_pool cd_pool) ja_nil))) (je_bin os_mul (je_str [32] st8) (je_if (jt_cmp os_lt (je_var 1 rfl vi__law_line_1 nd_loose cd_loose) je_int) (je_call ((ok__law_draw Γ).mono (by decide)) rfl tk hr Γ.g__law_draw Γ.F__law_draw.kp Γ.b__law_draw (ja_cons (je_var 0 rfl vi__law_line_0 nd_pool cd_pool) (ja_cons (je_bin os_add je_int (je_var 1 rfl vi__law_line_1 nd_loose cd_loose)) ja_nil))) (je_bin os_add je_int (je_call ((ok__law_draw Γ).mono (by decide)) rfl tk hr Γ.g__law_draw Γ.F__law_draw.kp Γ.b__law_draw (ja_cons (je_var 0 rfl vi__law_line_0 nd_pool cd_pool) (ja_cons je_int ja_nil))))))) sc__law_line.nd lo__law_line_2))) (jss_one (js_ret (je_var 2 rfl vi__law_line_2 nd_line cd_line))))))
def m__law_bent : SS := (sSeq (sSet 2 (eCallF 2 F__law_draw (aCons (eVar 0) (aCons (eBin oAdd (eCall (one1 lenD) (aCons (eVar 1) aNil)) (eC (.int 1))) aNil)))) (sSeq (sSet 3 (eBin oIx (eC (.str [61,35,44,59,58,33,63,65,95,90,38,60,91,123,126,39,64,94,124])) (eCallF 2 F__law_draw (aCons (eVar 0) (aCons (eC (.int 19)) aNil))))) (sSeq (sIf (tBin oEq (eCallF 2 F__law_draw (aCons (eVar 0) (aCons (eC (.int 4)) aNil))) (eC (.int 0)))
 (sRet (eBin oAdd (eBin oAdd (eSl (eVar 1) oNone (oSome (eVar 2))) (eBin oIx (eTup (aCons (eC (.str [32,46])) (aCons (eC (.str [40,46])) (aCons (eC (.str [120,46])) (aCons (eC (.str [45,46,53])) aNil))))) (eCallF 2 F__law_draw (aCons (eVar 0) (aCons (eC (.int 4)) aNil))))) (eSl (eVar 1) (oSome (eVar 2)) oNone)))
 sNil) (sRet (eBin oAdd (eBin oAdd (eSl (eVar 1) oNone (oSome (eVar 2))) (eVar 3)) (eSl (eVar 1) (oSome (eBin oAdd (eVar 2) (eCallF 2 F__law_draw (aCons (eVar 0) (aCons (eC (.int 2)) aNil))))) oNone))))))
def F__law_bent : OL := mkF 4 m__law_bent
theorem ok__law_bent {w : World} {K : PySem.W.Frag} {mg : Str → Option Value} {base : Heap} (Γ : Env w K mg) : FnOk PP w K mg base (L2.CX PP w) 2 Γ.a__law_bent Γ.d__law_bent ["pool", "line"] (spF K w mg 2 F__law_bent) :=
 fn_ok (b := m__law_bent) Γ.F__law_bent sc__law_bent rfl rfl fun cdv A outer s H E hr tk pw =>
 (jss_cons (js_set (je_call ((ok__law_draw Γ).mono (by decide)) rfl tk hr Γ.g__law_draw Γ.F__law_draw.kp Γ.b__law_draw (ja_cons (je_var 0 rfl vi__law_bent_0 nd_pool cd_pool) (ja_cons (je_bin os_add (je_callB cs_len Γ.n_len bt_len (ja_cons (je_var 1 rfl vi__law_bent_1 nd_line cd_line) ja_nil)) je_int) ja_nil))) sc__law_bent.nd lo__law_bent_2) (jss_cons (js_set (je_ix hr.units (je_str [61,35,44,59,58,33,63,65,95,90,38,60,91,123,126,39,64,94,124] st15) (je_call ((ok__law_draw Γ).mono (by decide)) rfl tk hr Γ.g__law_draw Γ.F__law_draw.kp Γ.b__law_draw (ja_cons (je_var 0 rfl vi__law_bent_0 nd_pool cd_pool) (ja_cons je_int ja_nil)))) sc__law_bent.nd lo__law_bent_3) (jss_cons (js_if (jt_cmp (os_eq hr.units) (je_call ((ok__law_draw Γ).mono (by decide)) rfl tk hr Γ.g__law_draw Γ.F__law_draw.kp Γ.b__law_draw (ja_cons (je_var 0 rfl vi__law_bent_0 nd_pool cd_pool) (ja_cons je_int ja_nil))) je_int)
 (jss_one (js_ret (je_bin os_add (je_bin os_add (je_slice (je_var 1 rfl vi__law_bent_1 nd_line cd_line) jo_none (jo_some (je_var 2 rfl vi__law_bent_2 nd_at cd_at))) (je_ix hr.units (je_tup (ja_cons (je_str [32,46] st16) (ja_cons (je_str [40,46] st17) (ja_cons (je_str [120,46] st18) (ja_cons (je_str [45,46,53] st19) ja_nil))))) (je_call ((ok__law_draw Γ).mono (by decide)) rfl tk hr Γ.g__law_draw Γ.F__law_draw.kp Γ.b__law_draw (ja_cons (je_var 0 rfl vi__law_bent_0 nd_pool cd_pool) (ja_cons je_int ja_nil))))) (je_slice (je_var 1 rfl vi__law_bent_1 nd_line cd_line) (jo_some (je_var 2 rfl vi__law_bent_2 nd_at cd_at)) jo_none))))
 jss_nil) (jss_one (js_ret (je_bin os_add (je_bin os_add (je_slice (je_var 1 rfl vi__law_bent_1 nd_line cd_line) jo_none (jo_some (je_var 2 rfl vi__law_bent_2 nd_at cd_at))) (je_var 3 rfl vi__law_bent_3 nd_sign cd_sign)) (je_slice (je_var 1 rfl vi__law_bent_1 nd_line cd_line) (jo_some (je_bin os_add (je_var 2 rfl vi__law_bent_2 nd_at cd_at) (je_call ((ok__law_draw Γ).mono (by decide)) rfl tk hr Γ.g__law_draw Γ.F__law_draw.kp Γ.b__law_draw (ja_cons (je_var 0 rfl vi__law_bent_0 nd_pool cd_pool) (ja_cons je_int ja_nil))))) jo_none)))))))
def lb_law_0 : SS := (sSeq (sSet 6 (eCallF 1 F__law_line (aCons (eVar 1) aNil))) (sSeq (sIf (tOrB (tNotB (tTru (eCallF 1 F__law_holds (aCons (eVar 6) aNil)))) (tNotB (tTru (eCallF 1 F__law_holds (aCons (eCallF 2 F__law_bent (aCons (eVar 1) (aCons (eVar 6) aNil))) aNil)))))
 (sRet (eC (.bl false)))
 sNil) (sSeq (sSet 7 (eMeth .str mJoin (eC (.str [])) (aCons (eLc [5] (iRng1 (aCons (eCallF 2 F__law_draw (aCons (eVar 1) (aCons (eC (.int 14)) aNil))) aNil)) (gN 5) tYesD (eBin oIx (eC (.str [97,98,48,49,46,43,45,42,47,40,41,32,61])) (eCallF 2 F__law_draw (aCons (eVar 1) (aCons (eC (.int 13)) aNil))))) aNil))) (sIf (tNotB (tTru (eCallF 1 F__law_holds (aCons (eVar 7) aNil))))
 (sRet (eC (.bl false)))
 sNil))))
def lb_law_1 : SS := (sIf (tOrB (tBin oNe (eBin oIx (eVar 4) (eVar 5)) (eCallF 1 F__law_due (aCons (eBin oIx (eVar 3) (eVar 5)) aNil))) (tNotB (tTru (eCallF 1 F__law_holds (aCons (eBin oIx (eVar 3) (eVar 5)) aNil)))))
 (sRet (eC (.bl false)))
 sNil)
def m_law : SS := (sSeq (sSet 1 (eCallF 1 F__law_pool (aCons (eVar 0) aNil))) (sSeq (sFor (iRng1 (aCons (eC (.int 6)) aNil)) (gN 2) lb_law_0) (sSeq (sSet 3 (eTup (aCons (eC (.str [50,42,120,49,32,45,40,121,47,48,46,53,41])) (aCons (eC (.str [50,120])) (aCons (eC (.str [120,50,121])) (aCons (eC (.str [49,46,46,50,46,120])) (aCons (eC (.str [97,32,98])) (aCons (eC (.str [45,45,40])) (aCons (eC (.str [32,32])) (aCons (eC (.str [])) (aCons (eC (.str [48,48,49,50,97,98,46])) (aCons (eC (.str [46,53])) (aCons (eC (.str [120,46])) (aCons (eC (.str [49,46,53,46])) (aCons (eC (.str [120,32,61,32,121])) (aCons (eC (.str [88])) (aCons (eC (.str [49,101,53])) (aCons (eC (.str [51,32,46])) (aCons (eC (.str [40,49,46,41])) aNil))))))))))))))))))) (sSeq (sSet 4 (eMut (aCons (eTup (aCons (eC (.str [50])) (aCons (eC (.str [42])) (aCons (eC (.str [120,49])) (aCons (eC (.str [45])) (aCons (eC (.str [40])) (aCons (eC (.str [121])) (aCons (eC (.str [47])) (aCons (eC (.str [48,46,53])) (aCons (eC (.str [41])) aNil)))))))))) (aCons (eTup (aCons (eC (.str [50])) (aCons (eC (.str [120])) aNil))) (aCons (eTup (aCons (eC (.str [120,50,121])) aNil)) (aCons (eTup (aCons (eC (.str [49,46,46,50,46])) (aCons (eC (.str [120])) aNil))) (aCons (eTup (aCons (eC (.str [97])) (aCons (eC (.str [98])) aNil))) (aCons (eTup (aCons (eC (.str [45])) (aCons (eC (.str [45])) (aCons (eC (.str [40])) aNil)))) (aCons (eTup aNil) (aCons (eTup aNil) (aCons (eC .non) (aCons (eC .non) (aCons (eC .non) (aCons (eTup (aCons (eC (.str [49,46,53,46])) aNil)) (aCons (eC .non) (aCons (eC .non) (aCons (eTup (aCons (eC (.str [49])) (aCons (eC (.str [101,53])) aNil))) (aCons (eC .non) aNil)))))))))))))))))) (sSeq (sExpr (eMeth .list mAppend (eVar 4) (aCons (eTup (aCons (eC (.str [40])) (aCons (eC (.str [49,46])) (aCons (eC (.str [41])) aNil)))) aNil))) (sSeq (sSet 3 (eBin oAdd (eVar 3) (eTup (aCons (eC (.str [97,98,99,100,101,102,103,104,105,106,107,108])) (aCons (eC (.str [49,50,51,52,53,54,55,56,57,48,49,50,32,97,49,98,50,99,51,100,52,101,53,102])) aNil))))) (sSeq (sExpr (eMeth .list mExtend (eVar 4) (aCons (eLst (aCons (eTup (aCons (eC (.str [97,98,99,100,101,102,103,104,105,106,107,108])) aNil)) (aCons (eTup (aCons (eC (.str [49,50,51,52,53,54,55,56,57,48,49,50])) (aCons (eC (.str [97,49,98,50,99,51,100,52,101,53,102])) aNil))) aNil))) aNil))) (sSeq (sFor (iRng1 (aCons (eCall (one1 lenD) (aCons (eVar 3) aNil)) aNil)) (gN 5) lb_law_1) (sRet (eC (.bl true)))))))))))
def F_law : OL := mkF 8 m_law
theorem ok_law {w : World} {K : PySem.W.Frag} {mg : Str → Option Value} {base : Heap} (Γ : Env w K mg) : FnOk PP w K mg base (L2.CX PP w) 6 Γ.a_law Γ.d_law ["script"] (spF K w mg 1 F_law) :=
 fn_ok (b := m_law) Γ.F_law sc_law rfl rfl fun cdv A outer s H E hr tk pw =>
 (jss_cons (js_set (je_call ((ok__law_pool Γ).mono (by decide)) rfl tk hr Γ.g__law_pool Γ.F__law_pool.kp Γ.b__law_pool (ja_cons (je_var 0 rfl vi_law_0 nd_script cd_script) ja_nil)) sc_law.nd lo_law_1) (jss_cons (js_for pw rfl (ji_range1 Γ.n_range (ja_cons je_int ja_nil)) (jg_name sc_law.nd lo_law_2)
 (jss_cons (js_set (je_call ((ok__law_line Γ).mono (by decide)) rfl tk hr Γ.g__law_line Γ.F__law_line.kp Γ.b__law_line (ja_cons (je_var 1 rfl vi_law_1 nd_pool cd_pool) ja_nil)) sc_law.nd lo_law_6) (jss_cons (js_if (JW.jt (jw_or (jt_not (jt_tru (je_call ((ok__law_holds Γ).mono (by decide)) rfl tk hr Γ.g__law_holds Γ.F__law_holds.kp Γ.b__law_holds (ja_cons (je_var 6 rfl vi_law_6 nd_line cd_line) ja_nil)))) (jw_or1 (jt_not (jt_tru (je_call ((ok__law_holds Γ).mono (by decide)) rfl tk hr Γ.g__law_holds Γ.F__law_holds.kp Γ.b__law_holds (ja_cons (je_call ((ok__law_bent Γ).mono (by decide)) rfl tk hr Γ.g__law_bent Γ.F__law_bent.kp Γ.b__law_bent (ja_cons (je_var 1 rfl vi_law_1 nd_pool cd_pool) (ja_cons (je_var 6 rfl vi_law_6 nd_line cd_line) ja_nil))) ja_nil)))))))
 (jss_one (js_ret je_bl))
 jss_nil) (jss_cons (js_set (je_bm .str PySem.F.plainAttrs_str PySem.F.slot_str_join PySem.F.type_str_join md_join (je_str [] st2) (ja_cons (je_lc (own := [("at", 5)]) rfl sc_law.nd (blk_of (by kernel_rfl)) (ji_range1 Γ.n_range (ja_cons (je_call ((ok__law_draw Γ).mono (by decide)) rfl tk hr Γ.g__law_draw Γ.F__law_draw.kp Γ.b__law_draw (ja_cons (je_var 1 rfl vi_law_1 nd_pool cd_pool) (ja_cons je_int ja_nil))) ja_nil)) (fun _ _ _ _ _ => (jgo_name sc_law.nd (.inl rfl) (by decide))) (fun _ _ _ _ _ => jts_nil) (fun _ _ _ _ _ => (je_ix hr.units (je_str [97,98,48,49,46,43,45,42,47,40,41,32,61] st20) (je_call ((ok__law_draw Γ).mono (by decide)) rfl takes_no hr Γ.g__law_draw Γ.F__law_draw.kp Γ.b__law_draw (ja_cons (je_var 1) (ja_cons je_int ja_nil)))))) ja_nil)) sc_law.nd lo_law_7) (jss_one (js_if (jt_not (jt_tru (je_call ((ok__law_holds Γ).mono (by decide)) rfl tk hr Γ.g__law_holds Γ.F__law_holds.kp Γ.b__law_holds (ja_cons (je_var 7 rfl vi_law_7 nd_free cd_free) ja_nil))))
 (jss_one (js_ret je_bl))
 jss_nil)))))) (jss_cons (js_set (je_tup (ja_cons (je_str [50,42,120,49,32,45,40,121,47,48,46,53,41] st21) (ja_cons (je_str [50,120] st22) (ja_cons (je_str [120,50,121] st23) (ja_cons (je_str [49,46,46,50,46,120] st24) (ja_cons (je_str [97,32,98] st25) (ja_cons (je_str [45,45,40] st26) (ja_cons (je_str [32,32] st27) (ja_cons (je_str [] st2) (ja_cons (je_str [48,48,49,50,97,98,46] st28) (ja_cons (je_str [46,53] st29) (ja_cons (je_str [120,46] st18) (ja_cons (je_str [49,46,53,46] st30) (ja_cons (je_str [120,32,61,32,121] st31) (ja_cons (je_str [88] st32) (ja_cons (je_str [49,101,53] st33) (ja_cons (je_str [51,32,46] st34) (ja_cons (je_str [40,49,46,41] st35) ja_nil)))))))))))))))))) sc_law.nd lo_law_3) (jss_cons (js_set (je_mut (ja_cons (je_tup (ja_cons (je_str [50] st36) (ja_cons (je_str [42] st37) (ja_cons (je_str [120,49] st38) (ja_cons (je_str [45] st39) (ja_cons (je_str [40] st40) (ja_cons (je_str [121] st41) (ja_cons (je_str [47] st42) (ja_cons (je_str [48,46,53] st43) (ja_cons (je_str [41] st44) ja_nil)))))))))) (ja_cons (je_tup (ja_cons (je_str [50] st36) (ja_cons (je_str [120] st45) ja_nil))) (ja_cons (je_tup (ja_cons (je_str [120,50,121] st23) ja_nil)) (ja_cons (je_tup (ja_cons (je_str [49,46,46,50,46] st46) (ja_cons (je_str [120] st45) ja_nil))) (ja_cons (je_tup (ja_cons (je_str [97] st47) (ja_cons (je_str [98] st48) ja_nil))) (ja_cons (je_tup (ja_cons (je_str [45] st39) (ja_cons (je_str [45] st39) (ja_cons (je_str [40] st40) ja_nil)))) (ja_cons (je_tup ja_nil) (ja_cons (je_tup ja_nil) (ja_cons je_non (ja_cons je_non (ja_cons je_non (ja_cons (je_tup (ja_cons (je_str [49,46,53,46] st30) ja_nil)) (ja_cons je_non (ja_cons je_non (ja_cons (je_tup (ja_cons (je_str [49] st49) (ja_cons (je_str [101,53] st50) ja_nil))) (ja_cons je_non ja_nil))))))))))))))))) sc_law.nd lo_law_4) (jss_cons (js_expr (je_bm .list PySem.F.plainAttrs_list PySem.F.slot_list_append PySem.F.type_list_append md_append (je_var 4 rfl vi_law_4 nd_dues cd_dues) (ja_cons (je_tup (ja_cons (je_str [40] st40) (ja_cons (je_str [49,46] st51) (ja_cons (je_str [41] st44) ja_nil)))) ja_nil))) (jss_cons (js_set (je_bin os_add (je_var 3 rfl vi_law_3 nd_rows cd_rows) (je_tup (ja_cons (je_str [97,98,99,100,101,102,103,104,105,106,107,108] st52) (ja_cons (je_str [49,50,51,52,53,54,55,56,57,48,49,50,32,97,49,98,50,99,51,100,52,101,53,102] st53) ja_nil)))) sc_law.nd lo_law_3) (jss_cons (js_expr (je_bm .list PySem.F.plainAttrs_list PySem.F.slot_list_extend PySem.F.type_list_extend md_extend (je_var 4 rfl vi_law_4 nd_dues cd_dues) (ja_cons (je_lst (ja_cons (je_tup (ja_cons (je_str [97,98,99,100,101,102,103,104,105,106,107,108] st52) ja_nil)) (ja_cons (je_tup (ja_cons (je_str [49,50,51,52,53,54,55,56,57,48,49,50] st54) (ja_cons (je_str [97,49,98,50,99,51,100,52,101,53,102] st55) ja_nil))) ja_nil))) ja_nil))) (jss_cons (js_for pw rfl (ji_range1 Γ.n_range (ja_cons (je_callB cs_len Γ.n_len bt_len (ja_cons (je_var 3 rfl vi_law_3 nd_rows cd_rows) ja_nil)) ja_nil)) (jg_name sc_law.nd lo_law_5)
 (jss_one (js_if (JW.jt (jw_or (jt_cmp (os_ne hr.units) (je_ix hr.units (je_var 4 rfl vi_law_4 nd_dues cd_dues) (je_var 5 rfl vi_law_5 nd_at cd_at)) (je_call ((ok__law_due Γ).mono (by decide)) rfl tk hr Γ.g__law_due Γ.F__law_due.kp Γ.b__law_due (ja_cons (je_ix hr.units (je_var 3 rfl vi_law_3 nd_rows cd_rows) (je_var 5 rfl vi_law_5 nd_at cd_at)) ja_nil))) (jw_or1 (jt_not (jt_tru (je_call ((ok__law_holds Γ).mono (by decide)) rfl tk hr Γ.g__law_holds Γ.F__law_holds.kp Γ.b__law_holds (ja_cons (je_ix hr.units (je_var 3 rfl vi_law_3 nd_rows cd_rows) (je_var 5 rfl vi_law_5 nd_at cd_at)) ja_nil)))))))
 (jss_one (js_ret je_bl))
 jss_nil))) (jss_one (js_ret je_bl))))))))))
def dd (x : Str) (i : Nat) : He.DefD := ⟨(x, none), x, x, defArgs (top i), defBody (top i), defScope (top i), [], []⟩
def fn : List He.DefD := [dd "stretch_end" 9, dd "lexemes_or_none" 10, dd "lexemes_of" 11, dd "_law_pool" 13, dd "_law_draw" 14, dd "_law_same" 15, dd "_law_due" 16, dd "_law_heard" 17, dd "_law_holds" 18, dd "_law_stretch" 19, dd "_law_line" 20, dd "_law_bent" 21, dd "law" 22]
def fa : List He.Fa := [.glo "stretch_end", .glo "lexemes_or_none", .glo "lexemes_of", .glo "_law_pool", .glo "_law_draw", .glo "_law_same", .glo "_law_due", .glo "_law_heard", .glo "_law_holds", .glo "_law_stretch", .glo "_law_line", .glo "_law_bent", .glo "law", .glo "CreditError", .glo "TextError", .glo "BadText", .free "abs", .free "bool", .free "int", .free "isinstance", .free "len", .free "list", .free "range", .free "str", .free "tuple", .free "super"]
def ts : List He.Tab := []
def ins : List InD := [i_BadText]
def ex (K : PySem.W.Frag) : Bool := (supB K sup exn) && (glB K "BLANK" c_BLANK) && (glB K "FIGURES" c_FIGURES) && (glB K "LETTERS" c_LETTERS) && (glB K "SIGNS" c_SIGNS)
abbrev R : PySem.W.OpenRow := PySem.W.OpenLaw.row PySem.Challenge.rw_roundcredits_k01_lexemes
abbrev hk : PySem.W.Hook := hookI 5 fa fn ts ins PP ex
def ob (s : PySem.W.SharedT) : AlI := obsI 5 fa fn ts ins PP ex (HandSHeadRun.getT s)
theorem ob_eq (s : PySem.W.SharedT) : ob s = hk.obs s.abs := obsI_eq (HandSHeadRun.getT_eq s)
def loose : List Str := ["LETTERS", "FIGURES", "__name__", "CreditError", "TextError", "BadText", "SIGNS", "BLANK", "stretch_end", "lexemes_or_none", "lexemes_of", "_law_pool", "_law_draw", "_law_same", "_law_due", "_law_heard", "_law_holds", "_law_stretch", "_law_line", "_law_bent"]
set_option maxHeartbeats 0 in
theorem head_run (w : World) : HandSHeadRun.RunEq R (PySem.W.view R.prog [22]) hk ob 4000 loose w := by
  intro os
  kernel_rfl
theorem env_of {w : World} {K : PySem.W.Frag} {h : Heap} {mg : Str → Option Value} (X : K.In h) (G : h.Ns mainGlobals mg) (c : SaysI fa fn ts ins PP ex w K) : ∃ Γ : Env w K mg, Γ.a_law = He.ga K "law" := by
  have cm := c.more
  unfold ex at cm
  simp only [Bool.and_eq_true] at cm
  obtain ⟨⟨⟨⟨x0, x1⟩, x2⟩, x3⟩, x4⟩ := cm
  obtain ⟨d0, F0⟩ := c.t.d.def_ 0 (d := dd "stretch_end" 9) rfl
  obtain ⟨d1, F1⟩ := c.t.d.def_ 1 (d := dd "lexemes_or_none" 10) rfl
  obtain ⟨d2, F2⟩ := c.t.d.def_ 2 (d := dd "lexemes_of" 11) rfl
  obtain ⟨d3, F3⟩ := c.t.d.def_ 3 (d := dd "_law_pool" 13) rfl
  obtain ⟨d4, F4⟩ := c.t.d.def_ 4 (d := dd "_law_draw" 14) rfl
  obtain ⟨d5, F5⟩ := c.t.d.def_ 5 (d := dd "_law_same" 15) rfl
  obtain ⟨d6, F6⟩ := c.t.d.def_ 6 (d := dd "_law_due" 16) rfl
  obtain ⟨d7, F7⟩ := c.t.d.def_ 7 (d := dd "_law_heard" 17) rfl
  obtain ⟨d8, F8⟩ := c.t.d.def_ 8 (d := dd "_law_holds" 18) rfl
  obtain ⟨d9, F9⟩ := c.t.d.def_ 9 (d := dd "_law_stretch" 19) rfl
  obtain ⟨d10, F10⟩ := c.t.d.def_ 10 (d := dd "_law_line" 20) rfl
  obtain ⟨d11, F11⟩ := c.t.d.def_ 11 (d := dd "_law_bent" 21) rfl
  obtain ⟨d12, F12⟩ := c.t.d.def_ 12 (d := dd "law" 22) rfl
  obtain ⟨e0, E0⟩ := c.err i_BadText (by unfold ins; simp)
  refine ⟨{
    a_stretch_end := _, d_stretch_end := d0, F_stretch_end := F0, g_stretch_end := (He.glo_ok X G (c.t.d.fact 0 (f := .glo "stretch_end") rfl)), b_stretch_end := FunD.bindsN F0 (fun _ _ _ _ _ _ us hl => match us, hl with | [_, _, _], _ => rfl),
    a_lexemes_or_none := _, d_lexemes_or_none := d1, F_lexemes_or_none := F1, g_lexemes_or_none := (He.glo_ok X G (c.t.d.fact 1 (f := .glo "lexemes_or_none") rfl)), b_lexemes_or_none := FunD.bindsN F1 (fun _ _ _ _ _ _ us hl => match us, hl with | [_], _ => rfl),
    a_lexemes_of := _, d_lexemes_of := d2, F_lexemes_of := F2, g_lexemes_of := (He.glo_ok X G (c.t.d.fact 2 (f := .glo "lexemes_of") rfl)), b_lexemes_of := FunD.bindsN F2 (fun _ _ _ _ _ _ us hl => match us, hl with | [_], _ => rfl),
    a__law_pool := _, d__law_pool := d3, F__law_pool := F3, g__law_pool := (He.glo_ok X G (c.t.d.fact 3 (f := .glo "_law_pool") rfl)), b__law_pool := FunD.bindsN F3 (fun _ _ _ _ _ _ us hl => match us, hl with | [_], _ => rfl),
    a__law_draw := _, d__law_draw := d4, F__law_draw := F4, g__law_draw := (He.glo_ok X G (c.t.d.fact 4 (f := .glo "_law_draw") rfl)), b__law_draw := FunD.bindsN F4 (fun _ _ _ _ _ _ us hl => match us, hl with | [_, _], _ => rfl),
    a__law_same := _, d__law_same := d5, F__law_same := F5, g__law_same := (He.glo_ok X G (c.t.d.fact 5 (f := .glo "_law_same") rfl)), b__law_same := FunD.bindsN F5 (fun _ _ _ _ _ _ us hl => match us, hl with | [_, _], _ => rfl),
    a__law_due := _, d__law_due := d6, F__law_due := F6, g__law_due := (He.glo_ok X G (c.t.d.fact 6 (f := .glo "_law_due") rfl)), b__law_due := FunD.bindsN F6 (fun _ _ _ _ _ _ us hl => match us, hl with | [_], _ => rfl),
    a__law_heard := _, d__law_heard := d7, F__law_heard := F7, g__law_heard := (He.glo_ok X G (c.t.d.fact 7 (f := .glo "_law_heard") rfl)), b__law_heard := FunD.bindsN F7 (fun _ _ _ _ _ _ us hl => match us, hl with | [_], _ => rfl),
    a__law_holds := _, d__law_holds := d8, F__law_holds := F8, g__law_holds := (He.glo_ok X G (c.t.d.fact 8 (f := .glo "_law_holds") rfl)), b__law_holds := FunD.bindsN F8 (fun _ _ _ _ _ _ us hl => match us, hl with | [_], _ => rfl),
    a__law_stretch := _, d__law_stretch := d9, F__law_stretch := F9, g__law_stretch := (He.glo_ok X G (c.t.d.fact 9 (f := .glo "_law_stretch") rfl)), b__law_stretch := FunD.bindsN F9 (fun _ _ _ _ _ _ us hl => match us, hl with | [_], _ => rfl),
    a__law_line := _, d__law_line := d10, F__law_line := F10, g__law_line := (He.glo_ok X G (c.t.d.fact 10 (f := .glo "_law_line") rfl)), b__law_line := FunD.bindsN F10 (fun _ _ _ _ _ _ us hl => match us, hl with | [_], _ => rfl),
    a__law_bent := _, d__law_bent := d11, F__law_bent := F11, g__law_bent := (He.glo_ok X G (c.t.d.fact 11 (f := .glo "_law_bent") rfl)), b__law_bent := FunD.bindsN F11 (fun _ _ _ _ _ _ us hl => match us, hl with | [_, _], _ => rfl),
    a_law := _, d_law := d12, F_law := F12, g_law := (He.glo_ok X G (c.t.d.fact 12 (f := .glo "law") rfl)), b_law := FunD.bindsN F12 (fun _ _ _ _ _ _ us hl => match us, hl with | [_], _ => rfl),
    n_abs := (He.free_ok X G (c.t.d.fact 16 (f := .free "abs") rfl)),
    n_bool := (He.free_ok X G (c.t.d.fact 17 (f := .free "bool") rfl)),
    n_int := (He.free_ok X G (c.t.d.fact 18 (f := .free "int") rfl)),
    n_isinstance := (He.free_ok X G (c.t.d.fact 19 (f := .free "isinstance") rfl)),
    n_len := (He.free_ok X G (c.t.d.fact 20 (f := .free "len") rfl)),
    n_list := (He.free_ok X G (c.t.d.fact 21 (f := .free "list") rfl)),
    n_range := (He.free_ok X G (c.t.d.fact 22 (f := .free "range") rfl)),
    n_str := (He.free_ok X G (c.t.d.fact 23 (f := .free "str") rfl)),
    n_tuple := (He.free_ok X G (c.t.d.fact 24 (f := .free "tuple") rfl)),
    k_BLANK := glB_ok X G x1,
    k_FIGURES := glB_ok X G x2,
    k_LETTERS := glB_ok X G x3,
    k_SIGNS := glB_ok X G x4,
    n_super := (He.free_ok X G (c.t.d.fact 25 (f := .free "super") rfl)),
    X_ := ⟨fun c0 hc0 => ?_, x0, fun d0 hd0 => ?_⟩,
    e_BadText := e0, E_BadText := E0, B_BadText := E0.binds (fun _ _ _ _ _ _ _ us hl => match us, hl with | [_, _, _], _ => rfl), g_BadText := (He.glo_ok X G (c.t.d.fact 15 (f := .glo "BadText") rfl)) }, rfl⟩
  · have key : ∀ (e : InD) (fd : FuncData), e.x = Str.ofString c0 → e.fs = xfs → ErrD PP K e fd → XfC K (He.ga K (Str.ofString c0)) ∧ ExcC K (He.ga K (Str.ofString c0)) ∧ mg (Str.ofString c0) = some (.ref (He.ga K (Str.ofString c0))) ∧ ∀ f ∈ xfs, PySem.W.findIn K (.ref (He.ga K (Str.ofString c0))) f = some none := fun e fd e1 e2 E => by
      rw [← e1, ← e2]
      exact ⟨E.xf, E.exc, PySem.W.mg_of X G E.ns, E.hno⟩
    unfold sup at hc0
    have hm : c0 ∈ sup.map (·.1) := by
      cases q : sup.lookup c0 with
      | none => unfold sup at q; rw [q] at hc0; cases hc0
      | some l => exact List.mem_map_of_mem (f := (·.1)) (mem_lk q)
    simp only [sup, List.map_cons, List.map_nil, List.mem_cons, List.not_mem_nil, or_false] at hm
    rcases hm with rfl
    · exact key i_BadText _ rfl rfl E0
  · simp only [exn, List.mem_cons, List.not_mem_nil, or_false] at hd0
    rcases hd0 with rfl | rfl | rfl
    · exact (He.glo_ok X G (c.t.d.fact 13 (f := .glo "CreditError") rfl))
    · exact (He.glo_ok X G (c.t.d.fact 14 (f := .glo "TextError") rfl))
    · exact (He.glo_ok X G (c.t.d.fact 15 (f := .glo "BadText") rfl))
theorem gcR_eq {d : D} {h : Mh} {n : Nat} (e : h.length = n) : gcR n (.ok d h) = .ok d h := by
  subst e
  show (match bndD h.length d && (h.take h.length).all (bndO h.length) with
    | true => Rs.ok d (h.take h.length)
    | false => .ok d h) = _
  rw [List.take_length]
  cases bndD h.length d && h.all (bndO h.length) <;> rfl
theorem mkF_rt {n : Nat} {b : SS} {ds ρ : List D} {h h' : Mh} {d : D} (er : ds ++ List.replicate (n - ds.length) .u = ρ) (e : b ρ h = .rt d h') (el : h'.length = h.length) : mkF n b ds h = .ok d h' := by
  unfold mkF
  rw [er, e]
  exact gcR_eq el
def PoolOk (h t : Mh) : Prop := ∃ (p : Int) (cs : List Int), h = .lst (.int p :: cs.map D.int) :: t ∧ 0 ≤ p ∧ p < 2147483579 ∧ cs.length ≤ 63
theorem PoolOk.len {h h' t : Mh} (a : PoolOk h t) (b : PoolOk h' t) : h'.length = h.length := by
  obtain ⟨_, _, rfl, _⟩ := a
  obtain ⟨_, _, rfl, _⟩ := b
  rfl
theorem fmod_rng (a : Int) {m : Int} (h : 0 < m) : 0 ≤ a.fmod m ∧ a.fmod m < m := ⟨Int.fmod_nonneg_of_pos a h, Int.fmod_lt_of_pos a h⟩
theorem divOk_small {m : Int} (h : 0 < m) (h2 : m ≤ 2147483579) : divOk m = true := by
  unfold divOk
  have h3 : m.natAbs.log2 ≤ m.natAbs := Nat.log2_le_self _
  have : m.natAbs.log2 < 9000 := by
    have : m.natAbs < 2 ^ 32 := by omega
    have := (Nat.log2_lt (by omega : m.natAbs ≠ 0)).mpr this
    omega
  rw [decide_eq_true (by omega : m ≠ 0), decide_eq_true this]; rfl
theorem mulOk_small {a b : Int} (h : 0 ≤ a) (h2 : a < 2147483579) (h3 : 0 ≤ b) (h4 : b < 2147483579) : mulOk a b = true := by
  unfold mulOk
  have e : ∀ m : Int, 0 ≤ m → m < 2147483579 → m.natAbs.log2 ≤ 32 := fun m g1 g2 => by
    by_cases z : m.natAbs = 0
    · rw [z]; decide
    · have := (Nat.log2_lt z).mpr (by omega : m.natAbs < 2 ^ 32)
      omega
  have := e a h h2; have := e b h3 h4
  exact decide_eq_true (by omega)
theorem draw_ok {h t : Mh} {many : Int} (P : PoolOk h t) (h0 : 0 < many) (h1 : many ≤ 1000000) : ∃ r h', F__law_draw [.ref 0, .int many] h = .ok (.int r) h' ∧ PoolOk h' t ∧ 0 ≤ r ∧ r < many := by
  have P0 := P
  obtain ⟨p, cs, rfl, p0, p1, hl⟩ := P
  have dv := divOk_small h0 (by omega : many ≤ 2147483579)
  have dn : decide (many ≠ 0) = true := decide_eq_true (by omega)
  have dv2 : decide ((2147483579 : Int) ≠ 0) = true := by decide
  have dv3 : divOk 197 = true := by decide +kernel
  have ml := mulOk_small p0 p1 (by decide : (0 : Int) ≤ 39373) (by decide)
  rcases List.eq_nil_or_concat cs with rfl | ⟨cs', c, rfl⟩
  · have Q : PoolOk (.lst [.int ((p * 39373 + 2087).fmod 2147483579)] :: t) t := ⟨_, [], rfl, (fmod_rng _ (by decide)).1, (fmod_rng _ (by decide)).2, by decide⟩
    refine ⟨_, _, mkF_rt (ρ := [.ref 0, .int many, .u]) rfl (h' := .lst [.int ((p * 39373 + 2087).fmod 2147483579)] :: t) (d := .int ((((p * 39373 + 2087).fmod 2147483579).fdiv 197).fmod many)) ?_ (P0.len Q), Q, (fmod_rng _ h0).1, (fmod_rng _ h0).2⟩
    simp [m__law_draw, sSeq, Ss.seq, sIf, sE, sSet, sRet, sRetN, sExpr, sAsg, sAug, sPar, sNil, stv, gN, gSubD, gTupD, gsNil, gsCons, putD, tBin, tIs, tTru, truD, tAndB, tOrB, tNotB, eBin, eUn, eChain, eIf, eC, eVar, lk, eCall, eCallF, one1, two2, lenD, absD, intV, tupleD, aCons, aNil, eTup, eLst, eMut, eFrz, frzD, eMeth, Bt.is, mAppend, mPop, mExtend, mJoin, liveL, Rs.bind, isB, oCmpI, oAdd, oSub, oMul, oDiv, oMod, oNeg, oIx, oIxS, dicOf, keyD, lstOf, lstH, seqL, oEq, oNe, eqD, scalD, oIn, oNotIn, inD, flatD, eqF, oIs, oIsNot, isNonD, eSl, oSl, oSome, oNone, DL.intD, eIsi, tyD, isiAny, Ty.is, iAny, DL.iRng1, List.getElem?_cons_zero, List.getElem?_cons_succ, List.set_cons_zero, List.set_cons_succ, List.length_cons, List.length_nil, Option.isSome, List.map_nil, ixN, atI, dv, dv2, dv3, ml, dn]
  · have dl : (D.int p :: (cs'.map D.int ++ [D.int c])).dropLast = D.int p :: cs'.map D.int := by rw [← List.cons_append, List.dropLast_concat]
    have l1 : decide (1 < (cs'.length : Int) + 1 + 1) = true := decide_eq_true (by omega)
    have hl' : cs'.length ≤ 62 := by simp at hl; omega
    have sm : small (cs'.length + 1 + 1) = true := decide_eq_true (by omega)
    have hz : ¬ many = 0 := by omega
    by_cases hc : many ≤ c
    · have Q : PoolOk (.lst (.int p :: (cs' ++ [c.fdiv many]).map D.int) :: t) t := ⟨_, _, rfl, p0, p1, by simpa using hl⟩
      refine ⟨_, _, mkF_rt (ρ := [.ref 0, .int many, .u]) rfl (h' := .lst (.int p :: (cs' ++ [c.fdiv many]).map D.int) :: t) (d := .int (c.fmod many)) ?_ (P0.len Q), Q, (fmod_rng _ h0).1, (fmod_rng _ h0).2⟩
      simp [m__law_draw, sSeq, Ss.seq, sIf, sE, sSet, sRet, sRetN, sExpr, sAsg, sAug, sPar, sNil, stv, gN, gSubD, gTupD, gsNil, gsCons, putD, tBin, tIs, tTru, truD, tAndB, tOrB, tNotB, eBin, eUn, eChain, eIf, eC, eVar, lk, eCall, eCallF, one1, two2, lenD, absD, intV, tupleD, aCons, aNil, eTup, eLst, eMut, eFrz, frzD, eMeth, Bt.is, mAppend, mPop, mExtend, mJoin, liveL, Rs.bind, isB, oCmpI, oAdd, oSub, oMul, oDiv, oMod, oNeg, oIx, oIxS, dicOf, keyD, lstOf, lstH, seqL, oEq, oNe, eqD, scalD, oIn, oNotIn, inD, flatD, eqF, oIs, oIsNot, isNonD, eSl, oSl, oSome, oNone, DL.intD, eIsi, tyD, isiAny, Ty.is, iAny, DL.iRng1, List.getElem?_cons_zero, List.getElem?_cons_succ, List.set_cons_zero, List.set_cons_succ, List.length_cons, List.length_nil, Option.isSome, ixN, atI, dv, dv2, dv3, ml, dn, hc, dl, l1, sm, hz]
    · have Q : PoolOk (.lst (.int p :: cs'.map D.int) :: t) t := ⟨_, _, rfl, p0, p1, by omega⟩
      refine ⟨_, _, mkF_rt (ρ := [.ref 0, .int many, .u]) rfl (h' := .lst (.int p :: cs'.map D.int) :: t) (d := .int (c.fmod many)) ?_ (P0.len Q), Q, (fmod_rng _ h0).1, (fmod_rng _ h0).2⟩
      simp [m__law_draw, sSeq, Ss.seq, sIf, sE, sSet, sRet, sRetN, sExpr, sAsg, sAug, sPar, sNil, stv, gN, gSubD, gTupD, gsNil, gsCons, putD, tBin, tIs, tTru, truD, tAndB, tOrB, tNotB, eBin, eUn, eChain, eIf, eC, eVar, lk, eCall, eCallF, one1, two2, lenD, absD, intV, tupleD, aCons, aNil, eTup, eLst, eMut, eFrz, frzD, eMeth, Bt.is, mAppend, mPop, mExtend, mJoin, liveL, Rs.bind, isB, oCmpI, oAdd, oSub, oMul, oDiv, oMod, oNeg, oIx, oIxS, dicOf, keyD, lstOf, lstH, seqL, oEq, oNe, eqD, scalD, oIn, oNotIn, inD, flatD, eqF, oIs, oIsNot, isNonD, eSl, oSl, oSome, oNone, DL.intD, eIsi, tyD, isiAny, Ty.is, iAny, DL.iRng1, List.getElem?_cons_zero, List.getElem?_cons_succ, List.set_cons_zero, List.set_cons_succ, List.length_cons, List.length_nil, Option.isSome, ixN, atI, dv, dv2, dv3, ml, dn, hc, dl, l1, sm, hz]
/-! the pool -/
theorem shl_ok : ∃ M : Int, (∀ h, oShl (.int 1) (.int 2000) h = .ok (.int M) h) ∧ ¬ M = 0 := by
  refine ⟨1 * 2 ^ (2000 : Int).toNat, fun h => ?_, by decide +kernel⟩
  show (match powOk 1 2000 with
    | true => Rs.ok (D.int (1 * 2 ^ (2000 : Int).toNat)) h
    | false => .no) = _
  rw [show powOk 1 2000 = true by decide +kernel]
theorem pow_ok : ∃ T : Int, ∀ h, oPow (.int 10) (.int 18) h = .ok (.int T) h := by
  refine ⟨10 ^ (18 : Int).toNat, fun h => ?_⟩
  show (match powOk 10 18 with
    | true => Rs.ok (D.int (10 ^ (18 : Int).toNat)) h
    | false => .no) = _
  rw [show powOk 10 18 = true by decide +kernel]
theorem pool_for (s0 : D) : ∀ (ns : List Int) (x : D) (p : Int) (cs : List Int), 0 ≤ p → p < 2147483579 → cs.length + ns.length ≤ 63 → ∃ (x' : D) (p' : Int) (cs' : List Int), forL (gN 2) lb__law_pool_0 (ns.map D.int) [s0, .ref 0, x] [.lst (.int p :: cs.map D.int)] = .nx [s0, .ref 0, x'] [.lst (.int p' :: cs'.map D.int)] ∧ 0 ≤ p' ∧ p' < 2147483579 ∧ cs'.length ≤ 63
  | [], x, p, cs, h0, h1, hl => ⟨x, p, cs, rfl, h0, h1, by simpa using hl⟩
  | n :: ns, x, p, cs, h0, h1, hl => by
    have ml := mulOk_small h0 h1 (by decide : (0 : Int) ≤ 48271) (by decide)
    obtain ⟨M, hM, M0⟩ := shl_ok
    obtain ⟨T, hT⟩ := pow_ok
    have sm : small (cs.length + 1 + 1) = true := decide_eq_true (by simp at hl; omega)
    generalize hA : (if n < 0 then -n else n) = A
    have q := fmod_rng (p * 48271 + (A.fmod M).fmod 2147483579 + 3571) (by decide : (0 : Int) < 2147483579)
    rw [List.map_cons]
    unfold forL
    cases hc : decide (T ≤ A.fmod M) with
    | true =>
      obtain ⟨x', p', cs', e, r⟩ := pool_for s0 ns (.int (A.fmod M)) _ (cs ++ [A.fmod M]) q.1 q.2 (by simp at hl ⊢; omega)
      refine ⟨x', p', cs', ?_, r⟩
      rw [← e]
      simp [lb__law_pool_0, sSeq, Ss.seq, sIf, sE, sSet, sRet, sRetN, sExpr, sAsg, sAug, sPar, sNil, stv, gN, gSubD, gTupD, gsNil, gsCons, putD, tBin, tIs, tTru, truD, tAndB, tOrB, tNotB, eBin, eUn, eChain, eIf, eC, eVar, lk, eCall, eCallF, one1, two2, lenD, absD, intV, tupleD, aCons, aNil, eTup, eLst, eMut, eFrz, frzD, eMeth, Bt.is, mAppend, mPop, mExtend, mJoin, liveL, Rs.bind, isB, oCmpI, oAdd, oSub, oMul, oDiv, oMod, oNeg, oIx, oIxS, dicOf, keyD, lstOf, lstH, seqL, oEq, oNe, eqD, scalD, oIn, oNotIn, inD, flatD, eqF, oIs, oIsNot, isNonD, eSl, oSl, oSome, oNone, DL.intD, eIsi, tyD, isiAny, Ty.is, iAny, DL.iRng1, List.getElem?_cons_zero, List.getElem?_cons_succ, List.set_cons_zero, List.set_cons_succ, List.length_cons, List.length_nil, Option.isSome, ixN, atI, ml, M0, sm, hc, hM, hT, hA]
    | false =>
      obtain ⟨x', p', cs', e, r⟩ := pool_for s0 ns (.int (A.fmod M)) _ cs q.1 q.2 (by simp at hl ⊢; omega)
      refine ⟨x', p', cs', ?_, r⟩
      rw [← e]
      simp [lb__law_pool_0, sSeq, Ss.seq, sIf, sE, sSet, sRet, sRetN, sExpr, sAsg, sAug, sPar, sNil, stv, gN, gSubD, gTupD, gsNil, gsCons, putD, tBin, tIs, tTru, truD, tAndB, tOrB, tNotB, eBin, eUn, eChain, eIf, eC, eVar, lk, eCall, eCallF, one1, two2, lenD, absD, intV, tupleD, aCons, aNil, eTup, eLst, eMut, eFrz, frzD, eMeth, Bt.is, mAppend, mPop, mExtend, mJoin, liveL, Rs.bind, isB, oCmpI, oAdd, oSub, oMul, oDiv, oMod, oNeg, oIx, oIxS, dicOf, keyD, lstOf, lstH, seqL, oEq, oNe, eqD, scalD, oIn, oNotIn, inD, flatD, eqF, oIs, oIsNot, isNonD, eSl, oSl, oSome, oNone, DL.intD, eIsi, tyD, isiAny, Ty.is, iAny, DL.iRng1, List.getElem?_cons_zero, List.getElem?_cons_succ, List.set_cons_zero, List.set_cons_succ, List.length_cons, List.length_nil, Option.isSome, ixN, atI, ml, M0, sm, hc, hM, hT, hA]
theorem cut63 (ns : List Int) (hl : ns.length ≤ 63) : cutL (ns.map D.int) none (some 63) = ns.map D.int := by
  unfold cutL
  have e1 : HT.sIx (ns.map D.int).length 0 none = 0 := rfl
  have e2 : HT.sIx (ns.map D.int).length (ns.map D.int).length (some 63) = ns.length := by
    unfold HT.sIx
    rw [List.length_map]
    simp
    omega
  rw [e1, e2, List.drop_zero, Nat.sub_zero]
  exact List.take_of_length_le (by rw [List.length_map]; exact Nat.le_refl _)
theorem pool_ok (ns : List Int) (hl : ns.length ≤ 63) : ∃ h', F__law_pool [.scr ns] [] = .ok (.ref 0) h' ∧ PoolOk h' [] := by
  obtain ⟨x', p', cs', e, r1, r2, r3⟩ := pool_for (.scr ns) ns .u 225349 [] (by decide) (by decide) (by simpa using hl)
  have sm : small (0 + 1) = true := by decide
  refine ⟨[.lst (.int p' :: cs'.map D.int)], ?_, p', cs', rfl, r1, r2, r3⟩
  unfold F__law_pool mkF
  have key : m__law_pool [.scr ns, .u, .u] [] = .rt (.ref 0) [.lst (.int p' :: cs'.map D.int)] := by
    simp [m__law_pool, sSeq, Ss.seq, sIf, sE, sSet, sRet, sRetN, sExpr, sAsg, sAug, sPar, sNil, stv, gN, gSubD, gTupD, gsNil, gsCons, putD, tBin, tIs, tTru, truD, tAndB, tOrB, tNotB, eBin, eUn, eChain, eIf, eC, eVar, lk, eCall, eCallF, one1, two2, lenD, absD, intV, tupleD, aCons, aNil, eTup, eLst, eMut, eFrz, frzD, eMeth, Bt.is, mAppend, mPop, mExtend, mJoin, liveL, Rs.bind, isB, oCmpI, oAdd, oSub, oMul, oDiv, oMod, oNeg, oIx, oIxS, dicOf, keyD, lstOf, lstH, seqL, oEq, oNe, eqD, scalD, oIn, oNotIn, inD, flatD, eqF, oIs, oIsNot, isNonD, eSl, oSl, oSome, oNone, DL.intD, eIsi, tyD, isiAny, Ty.is, iAny, DL.iRng1, List.getElem?_cons_zero, List.getElem?_cons_succ, List.set_cons_zero, List.set_cons_succ, List.length_cons, List.length_nil, Option.isSome, sFor, sm, cut63 ns hl]
    simp at e
    rw [e]
    simp [sSeq, Ss.seq, sIf, sE, sSet, sRet, sRetN, sExpr, sAsg, sAug, sPar, sNil, stv, gN, gSubD, gTupD, gsNil, gsCons, putD, tBin, tIs, tTru, truD, tAndB, tOrB, tNotB, eBin, eUn, eChain, eIf, eC, eVar, lk, eCall, eCallF, one1, two2, lenD, absD, intV, tupleD, aCons, aNil, eTup, eLst, eMut, eFrz, frzD, eMeth, Bt.is, mAppend, mPop, mExtend, mJoin, liveL, Rs.bind, isB, oCmpI, oAdd, oSub, oMul, oDiv, oMod, oNeg, oIx, oIxS, dicOf, keyD, lstOf, lstH, seqL, oEq, oNe, eqD, scalD, oIn, oNotIn, inD, flatD, eqF, oIs, oIsNot, isNonD, eSl, oSl, oSome, oNone, DL.intD, eIsi, tyD, isiAny, Ty.is, iAny, DL.iRng1, List.getElem?_cons_zero, List.getElem?_cons_succ, List.set_cons_zero, List.set_cons_succ, List.length_cons, List.length_nil, Option.isSome]
  show gcR 0 (endF (m__law_pool [.scr ns, .u, .u] [])) = _
  rw [key]
  rfl

theorem ix_str {l : List Nat} {r : Int} (h0 : 0 ≤ r) (h1 : r < l.length) (hl : l.length ≤ 1000) : ∃ c, c ∈ l ∧ ∀ h, oIx (.str l) (.int r) h = .ok (.str [c]) h := by
  have hr : r.toNat < l.length := by omega
  refine ⟨l[r.toNat], List.getElem_mem hr, fun h => ?_⟩
  have sm : small l.length = true := decide_eq_true (by omega)
  have ix : atI l r = some l[r.toNat] := by
    unfold atI ixN
    rw [if_pos h0, if_pos h1]
    exact List.getElem?_eq_getElem hr
  show (match small l.length, atI l r with
    | true, some c => Rs.ok (D.str [c]) h
    | _, _ => .no) = _
  rw [sm, ix]
theorem add_str {a b : List Nat} (hl : a.length + b.length ≤ 10000) (h : Mh) : oAdd (.str a) (.str b) h = .ok (.str (a ++ b)) h := by
  show (match small (a.length + b.length) with
    | true => Rs.ok (D.str (a ++ b)) h
    | false => .no) = _
  rw [show small (a.length + b.length) = true from decide_eq_true (by omega)]
theorem draw1 {h t : Mh} {k : Int} (P : PoolOk h t) (h0 : 0 < k) (h1 : k ≤ 1000000) : ∃ (r : Int) (h' : Mh), F__law_draw [.ref 0, .int k] h = .ok (.int r) h' ∧ PoolOk h' t ∧ 0 ≤ r ∧ r < k := draw_ok P h0 h1
theorem stretch_for {t : Mh} (hb : Int) : ∀ (ds : List D) (text : List Nat) (x : D) (h : Mh), PoolOk h t → text.length + ds.length ≤ 1000 → ∃ (text' : List Nat) (x' : D) (h' : Mh),
    forL (gN 3) lb__law_stretch_0 ds [.ref 0, .int hb, .str text, x] h = .nx [.ref 0, .int hb, .str text', x'] h' ∧ PoolOk h' t ∧ text'.length = text.length + ds.length
  | [], text, x, h, P, hl => ⟨text, x, h, rfl, P, rfl⟩
  | d :: ds, text, x, h, P, hl => by
    obtain ⟨r, h1, e1, P1, r0, r1⟩ := draw1 P (by decide : (0 : Int) < 6) (by decide)
    obtain ⟨c1, m1, i1⟩ := ix_str (l := [97,122,48,57,98,113]) r0 r1 (by decide)
    obtain ⟨c2, m2, i2⟩ := ix_str (l := [48,46,57,46,49,50]) r0 r1 (by decide)
    rw [List.length_cons] at hl
    unfold forL
    cases hc : decide (hb = 1) with
    | true =>
      obtain ⟨t', x', h', e, P', l'⟩ := stretch_for hb ds (text ++ [c1]) d h1 P1 (by simp; omega)
      refine ⟨t', x', h', ?_, P', by rw [l']; simp; omega⟩
      rw [← e]
      have ad := add_str (a := text) (b := [c1]) (by simp; omega)
      simp [lb__law_stretch_0, sSeq, Ss.seq, sIf, sE, sSet, sRet, sRetN, sExpr, sAsg, sAug, sPar, sNil, stv, gN, gSubD, gTupD, gsNil, gsCons, putD, tBin, tIs, tTru, truD, tAndB, tOrB, tNotB, eBin, eUn, eChain, eIf, eC, eVar, lk, eCall, eCallF, one1, two2, lenD, absD, intV, tupleD, aCons, aNil, eTup, eLst, eMut, eFrz, frzD, eMeth, Bt.is, mAppend, mPop, mExtend, mJoin, liveL, Rs.bind, isB, oCmpI, oSub, oMul, oDiv, oMod, oNeg, dicOf, keyD, lstOf, lstH, seqL, oEq, oNe, eqD, scalD, oIn, oNotIn, inD, flatD, eqF, oIs, oIsNot, isNonD, eSl, oSl, oSome, oNone, DL.intD, eIsi, tyD, isiAny, Ty.is, iAny, DL.iRng1, List.getElem?_cons_zero, List.getElem?_cons_succ, List.set_cons_zero, List.set_cons_succ, List.length_cons, List.length_nil, Option.isSome, e1, i1, hc, ad]
    | false =>
      obtain ⟨t', x', h', e, P', l'⟩ := stretch_for hb ds (text ++ [c2]) d h1 P1 (by simp; omega)
      refine ⟨t', x', h', ?_, P', by rw [l']; simp; omega⟩
      rw [← e]
      have ad := add_str (a := text) (b := [c2]) (by simp; omega)
      simp [lb__law_stretch_0, sSeq, Ss.seq, sIf, sE, sSet, sRet, sRetN, sExpr, sAsg, sAug, sPar, sNil, stv, gN, gSubD, gTupD, gsNil, gsCons, putD, tBin, tIs, tTru, truD, tAndB, tOrB, tNotB, eBin, eUn, eChain, eIf, eC, eVar, lk, eCall, eCallF, one1, two2, lenD, absD, intV, tupleD, aCons, aNil, eTup, eLst, eMut, eFrz, frzD, eMeth, Bt.is, mAppend, mPop, mExtend, mJoin, liveL, Rs.bind, isB, oCmpI, oSub, oMul, oDiv, oMod, oNeg, dicOf, keyD, lstOf, lstH, seqL, oEq, oNe, eqD, scalD, oIn, oNotIn, inD, flatD, eqF, oIs, oIsNot, isNonD, eSl, oSl, oSome, oNone, DL.intD, eIsi, tyD, isiAny, Ty.is, iAny, DL.iRng1, List.getElem?_cons_zero, List.getElem?_cons_succ, List.set_cons_zero, List.set_cons_succ, List.length_cons, List.length_nil, Option.isSome, e1, i2, hc, ad]
theorem rngL_len (lo : Int) (n : Nat) : (rngL lo n).length = n := by unfold rngL; simp
theorem rngOk_small {k : Int} (h0 : 0 ≤ k) (h1 : k < 1000000) : rngOk k = true := decide_eq_true (by omega)
theorem stretch_ok {h t : Mh} (P : PoolOk h t) : ∃ (s : List Nat) (h' : Mh), F__law_stretch [.ref 0] h = .ok (.str s) h' ∧ PoolOk h' t ∧ s.length ≤ 10 := by
  obtain ⟨b, h1, e1, P1, b0, b1⟩ := draw1 P (by decide : (0 : Int) < 4) (by decide)
  obtain ⟨r, h2, e2, P2, r0, r1⟩ := draw1 P1 (by decide : (0 : Int) < 6) (by decide)
  obtain ⟨r', h3, e3, P3, r0', r1'⟩ := draw1 P1 (by decide : (0 : Int) < 10) (by decide)
  obtain ⟨c0, _, i0⟩ := ix_str (l := [43,45,42,47,40,41]) r0 r1 (by decide)
  obtain ⟨c1, _, i1⟩ := ix_str (l := [97,98,109,120,121,122]) r0 r1 (by decide)
  obtain ⟨c2, _, i2⟩ := ix_str (l := [48,49,50,51,52,53,54,55,56,57]) r0' r1' (by decide)
  cases hc : decide (b = 0) with
  | true =>
    refine ⟨[c0], h2, mkF_rt (ρ := [.ref 0, .u, .u, .u]) rfl ?_ (P.len P2), P2, by simp⟩
    simp [m__law_stretch, sSeq, Ss.seq, sIf, sE, sSet, sRet, sRetN, sExpr, sAsg, sAug, sPar, sNil, stv, gN, gSubD, gTupD, gsNil, gsCons, putD, tBin, tIs, tTru, truD, tAndB, tOrB, tNotB, eBin, eUn, eChain, eIf, eC, eVar, lk, eCall, eCallF, one1, two2, lenD, absD, intV, tupleD, aCons, aNil, eTup, eLst, eMut, eFrz, frzD, eMeth, Bt.is, mAppend, mPop, mExtend, mJoin, liveL, Rs.bind, isB, oCmpI, oSub, oMul, oDiv, oMod, oNeg, dicOf, keyD, lstOf, lstH, seqL, oEq, oNe, eqD, scalD, oIn, oNotIn, inD, flatD, eqF, oIs, oIsNot, isNonD, eSl, oSl, oSome, oNone, DL.intD, eIsi, tyD, isiAny, Ty.is, iAny, DL.iRng1, List.getElem?_cons_zero, List.getElem?_cons_succ, List.set_cons_zero, List.set_cons_succ, List.length_cons, List.length_nil, Option.isSome, e1, e2, i0, hc]
  | false =>
    cases hd : decide (b = 1) with
    | true =>
      obtain ⟨k, h4, e4, P4, k0, k1⟩ := draw1 P2 (by decide : (0 : Int) < 7) (by decide)
      obtain ⟨t', x', h', e, P', l'⟩ := stretch_for b (rngL 0 k.toNat) [c1] .u h4 P4 (by rw [rngL_len]; simp; omega)
      refine ⟨t', h', mkF_rt (ρ := [.ref 0, .u, .u, .u]) rfl ?_ (P.len P'), P', by rw [l', rngL_len]; simp; omega⟩
      simp [m__law_stretch, sSeq, Ss.seq, sIf, sE, sSet, sRet, sRetN, sExpr, sAsg, sAug, sPar, sNil, stv, gN, gSubD, gTupD, gsNil, gsCons, putD, tBin, tIs, tTru, truD, tAndB, tOrB, tNotB, eBin, eUn, eChain, eIf, eC, eVar, lk, eCall, eCallF, one1, two2, lenD, absD, intV, tupleD, aCons, aNil, eTup, eLst, eMut, eFrz, frzD, eMeth, Bt.is, mAppend, mPop, mExtend, mJoin, liveL, Rs.bind, isB, oCmpI, oSub, oMul, oDiv, oMod, oNeg, dicOf, keyD, lstOf, lstH, seqL, oEq, oNe, eqD, scalD, oIn, oNotIn, inD, flatD, eqF, oIs, oIsNot, isNonD, eSl, oSl, oSome, oNone, DL.intD, eIsi, tyD, isiAny, Ty.is, iAny, DL.iRng1, List.getElem?_cons_zero, List.getElem?_cons_succ, List.set_cons_zero, List.set_cons_succ, List.length_cons, List.length_nil, Option.isSome, e1, e2, i1, hc, hd, sFor, DL.iRng1, e4, rngOk_small k0 (by omega : k < 1000000), e]
    | false =>
      obtain ⟨k, h4, e4, P4, k0, k1⟩ := draw1 P3 (by decide : (0 : Int) < 7) (by decide)
      obtain ⟨t', x', h', e, P', l'⟩ := stretch_for b (rngL 0 k.toNat) [c2] .u h4 P4 (by rw [rngL_len]; simp; omega)
      refine ⟨t', h', mkF_rt (ρ := [.ref 0, .u, .u, .u]) rfl ?_ (P.len P'), P', by rw [l', rngL_len]; simp; omega⟩
      simp [m__law_stretch, sSeq, Ss.seq, sIf, sE, sSet, sRet, sRetN, sExpr, sAsg, sAug, sPar, sNil, stv, gN, gSubD, gTupD, gsNil, gsCons, putD, tBin, tIs, tTru, truD, tAndB, tOrB, tNotB, eBin, eUn, eChain, eIf, eC, eVar, lk, eCall, eCallF, one1, two2, lenD, absD, intV, tupleD, aCons, aNil, eTup, eLst, eMut, eFrz, frzD, eMeth, Bt.is, mAppend, mPop, mExtend, mJoin, liveL, Rs.bind, isB, oCmpI, oSub, oMul, oDiv, oMod, oNeg, dicOf, keyD, lstOf, lstH, seqL, oEq, oNe, eqD, scalD, oIn, oNotIn, inD, flatD, eqF, oIs, oIsNot, isNonD, eSl, oSl, oSome, oNone, DL.intD, eIsi, tyD, isiAny, Ty.is, iAny, DL.iRng1, List.getElem?_cons_zero, List.getElem?_cons_succ, List.set_cons_zero, List.set_cons_succ, List.length_cons, List.length_nil, Option.isSome, e1, e3, i2, hc, hd, sFor, DL.iRng1, e4, rngOk_small k0 (by omega : k < 1000000), e]

theorem mul_bl {k : Int} (h0 : 0 ≤ k) (h1 : k ≤ 100) : ∃ b : List Nat, b.length = k.toNat ∧ ∀ h, oMul (.str [32]) (.int k) h = .ok (.str b) h := by
  refine ⟨(List.replicate k.toNat [32]).flatten, by simp, fun h => ?_⟩
  show (match repOk ([32] : List Nat).length k with
    | true => Rs.ok (D.str (List.replicate k.toNat [32]).flatten) h
    | false => .no) = _
  rw [show repOk ([32] : List Nat).length k = true from by
    unfold repOk
    rw [decide_eq_true (by omega : -(2 ^ 63) ≤ k ∧ k < 2 ^ 63)]
    exact decide_eq_true (by simp; omega)]
theorem line_for {t : Mh} (lo : Int) (l0 : 0 ≤ lo) (l1 : lo < 3) : ∀ (ds : List D) (line : List Nat) (x : D) (h : Mh), PoolOk h t → line.length + 13 * ds.length ≤ 1000 → ∃ (line' : List Nat) (x' : D) (h' : Mh),
    forL (gN 3) lb__law_line_0 ds [.ref 0, .int lo, .str line, x] h = .nx [.ref 0, .int lo, .str line', x'] h' ∧ PoolOk h' t ∧ line'.length ≤ line.length + 13 * ds.length
  | [], line, x, h, P, hl => ⟨line, x, h, rfl, P, Nat.le_refl _⟩
  | d :: ds, line, x, h, P, hl => by
    obtain ⟨s, h1, e1, P1, ls⟩ := stretch_ok P
    rw [List.length_cons] at hl
    unfold forL
    cases hc : decide (lo < 2) with
    | true =>
      have hc' : lo < 2 := of_decide_eq_true hc
      obtain ⟨r, h2, e2, P2, r0, r1⟩ := draw1 P1 (by omega : (0 : Int) < 2 + lo) (by omega)
      obtain ⟨b, lb, mb⟩ := mul_bl r0 (by omega)
      obtain ⟨t', x', h', e, P', l'⟩ := line_for lo l0 l1 ds (line ++ s ++ b) d h2 P2 (by simp; omega)
      refine ⟨t', x', h', ?_, P', by simp at l' ⊢; omega⟩
      rw [← e]
      have sm1 : small (line.length + s.length) = true := decide_eq_true (by omega)
      have sm2 : small (line.length + s.length + b.length) = true := decide_eq_true (by omega)
      simp [lb__law_line_0, sSeq, Ss.seq, sIf, sE, sSet, sRet, sRetN, sExpr, sAsg, sAug, sPar, sNil, stv, gN, gSubD, gTupD, gsNil, gsCons, putD, tBin, tIs, tTru, truD, tAndB, tOrB, tNotB, eBin, eUn, eChain, eIf, eC, eVar, lk, eCall, eCallF, one1, two2, lenD, absD, intV, tupleD, aCons, aNil, eTup, eLst, eMut, eFrz, frzD, eMeth, Bt.is, mAppend, mPop, mExtend, mJoin, liveL, Rs.bind, isB, oCmpI, oAdd, oSub, oDiv, oMod, oNeg, dicOf, keyD, lstOf, lstH, seqL, oEq, oNe, eqD, scalD, oIn, oNotIn, inD, flatD, eqF, oIs, oIsNot, isNonD, eSl, oSl, oSome, oNone, DL.intD, eIsi, tyD, isiAny, Ty.is, iAny, DL.iRng1, List.getElem?_cons_zero, List.getElem?_cons_succ, List.set_cons_zero, List.set_cons_succ, List.length_cons, List.length_nil, Option.isSome, e1, hc, mb, e2, sm1, sm2]
    | false =>
      obtain ⟨r, h2, e2, P2, r0, r1⟩ := draw1 P1 (by omega : (0 : Int) < 2) (by omega)
      obtain ⟨b, lb, mb⟩ := mul_bl (k := 1 + r) (by omega) (by omega)
      obtain ⟨t', x', h', e, P', l'⟩ := line_for lo l0 l1 ds (line ++ s ++ b) d h2 P2 (by simp; omega)
      refine ⟨t', x', h', ?_, P', by simp at l' ⊢; omega⟩
      rw [← e]
      have sm1 : small (line.length + s.length) = true := decide_eq_true (by omega)
      have sm2 : small (line.length + s.length + b.length) = true := decide_eq_true (by omega)
      simp [lb__law_line_0, sSeq, Ss.seq, sIf, sE, sSet, sRet, sRetN, sExpr, sAsg, sAug, sPar, sNil, stv, gN, gSubD, gTupD, gsNil, gsCons, putD, tBin, tIs, tTru, truD, tAndB, tOrB, tNotB, eBin, eUn, eChain, eIf, eC, eVar, lk, eCall, eCallF, one1, two2, lenD, absD, intV, tupleD, aCons, aNil, eTup, eLst, eMut, eFrz, frzD, eMeth, Bt.is, mAppend, mPop, mExtend, mJoin, liveL, Rs.bind, isB, oCmpI, oAdd, oSub, oDiv, oMod, oNeg, dicOf, keyD, lstOf, lstH, seqL, oEq, oNe, eqD, scalD, oIn, oNotIn, inD, flatD, eqF, oIs, oIsNot, isNonD, eSl, oSl, oSome, oNone, DL.intD, eIsi, tyD, isiAny, Ty.is, iAny, DL.iRng1, List.getElem?_cons_zero, List.getElem?_cons_succ, List.set_cons_zero, List.set_cons_succ, List.length_cons, List.length_nil, Option.isSome, e1, hc, mb, e2, sm1, sm2]
theorem line_ok {h t : Mh} (P : PoolOk h t) : ∃ (s : List Nat) (h' : Mh), F__law_line [.ref 0] h = .ok (.str s) h' ∧ PoolOk h' t ∧ s.length ≤ 300 := by
  obtain ⟨lo, h1, e1, P1, a0, a1⟩ := draw1 P (by decide : (0 : Int) < 3) (by decide)
  obtain ⟨k, h2, e2, P2, b0, b1⟩ := draw1 P1 (by decide : (0 : Int) < 3) (by decide)
  obtain ⟨n, h3, e3, P3, c0, c1⟩ := draw1 P2 (by decide : (0 : Int) < 12) (by decide)
  obtain ⟨b, lb, mb⟩ := mul_bl b0 (by omega)
  obtain ⟨t', x', h', e, P', l'⟩ := line_for lo a0 a1 (rngL 0 n.toNat) b .u h3 P3 (by rw [rngL_len]; omega)
  rw [rngL_len] at l'
  refine ⟨t', h', mkF_rt (ρ := [.ref 0, .u, .u, .u]) rfl ?_ (P.len P'), P', by omega⟩
  simp [m__law_line, sSeq, Ss.seq, sIf, sE, sSet, sRet, sRetN, sExpr, sAsg, sAug, sPar, sNil, stv, gN, gSubD, gTupD, gsNil, gsCons, putD, tBin, tIs, tTru, truD, tAndB, tOrB, tNotB, eBin, eUn, eChain, eIf, eC, eVar, lk, eCall, eCallF, one1, two2, lenD, absD, intV, tupleD, aCons, aNil, eTup, eLst, eMut, eFrz, frzD, eMeth, Bt.is, mAppend, mPop, mExtend, mJoin, liveL, Rs.bind, isB, oCmpI, oAdd, oSub, oDiv, oMod, oNeg, dicOf, keyD, lstOf, lstH, seqL, oEq, oNe, eqD, scalD, oIn, oNotIn, inD, flatD, eqF, oIs, oIsNot, isNonD, eSl, oSl, oSome, oNone, DL.intD, eIsi, tyD, isiAny, Ty.is, iAny, DL.iRng1, List.getElem?_cons_zero, List.getElem?_cons_succ, List.set_cons_zero, List.set_cons_succ, List.length_cons, List.length_nil, Option.isSome, e1, e2, mb, sFor, DL.iRng1, e3, rngOk_small c0 (by omega : n < 1000000), e]
theorem cut_len (s : List Nat) (lo hi : Option Int) : (cutL s lo hi).length ≤ s.length := by
  unfold cutL
  rw [List.length_take, List.length_drop]
  omega
theorem bent_ok {h t : Mh} {s : List Nat} (P : PoolOk h t) (hl : s.length ≤ 300) : ∃ (s' : List Nat) (h' : Mh), F__law_bent [.ref 0, .str s] h = .ok (.str s') h' ∧ PoolOk h' t ∧ s'.length ≤ 700 := by
  obtain ⟨at_, h1, e1, P1, a0, a1⟩ := draw1 (k := (s.length : Int) + 1) P (by omega) (by omega)
  obtain ⟨k, h2, e2, P2, b0, b1⟩ := draw1 P1 (by decide : (0 : Int) < 19) (by decide)
  obtain ⟨n, h3, e3, P3, c0, c1⟩ := draw1 P2 (by decide : (0 : Int) < 4) (by decide)
  obtain ⟨m4, h4, e4, P4, d0, d1⟩ := draw1 P3 (by decide : (0 : Int) < 4) (by decide)
  obtain ⟨m5, h5, e5, P5, f0, f1⟩ := draw1 P3 (by decide : (0 : Int) < 2) (by decide)
  obtain ⟨c, _, ic⟩ := ix_str (l := [61,35,44,59,58,33,63,65,95,90,38,60,91,123,126,39,64,94,124]) b0 b1 (by decide)
  have sm0 : small s.length = true := decide_eq_true (by omega)
  have q1 := cut_len s none (some at_)
  have q2 := cut_len s (some at_) none
  have q3 := cut_len s (some (at_ + m5)) none
  cases hc : decide (n = 0) with
  | true =>
    have tp : ∃ w : List Nat, w.length ≤ 3 ∧ ∀ h, oIx (.tup [.str [32,46], .str [40,46], .str [120,46], .str [45,46,53]]) (.int m4) h = .ok (.str w) h := by
      have hm : m4 = 0 ∨ m4 = 1 ∨ m4 = 2 ∨ m4 = 3 := by omega
      rcases hm with rfl | rfl | rfl | rfl
      · exact ⟨[32,46], by decide, fun _ => rfl⟩
      · exact ⟨[40,46], by decide, fun _ => rfl⟩
      · exact ⟨[120,46], by decide, fun _ => rfl⟩
      · exact ⟨[45,46,53], by decide, fun _ => rfl⟩
    obtain ⟨w, lw, iw⟩ := tp
    have sm1 : small ((cutL s none (some at_)).length + w.length) = true := decide_eq_true (by omega)
    have sm2 : small ((cutL s none (some at_)).length + w.length + (cutL s (some at_) none).length) = true := decide_eq_true (by omega)
    have sm4 : small (0 + 1 + 1 + 1 + 1) = true := by decide
    refine ⟨_, h4, mkF_rt (ρ := [.ref 0, .str s, .u, .u]) rfl ?_ (P.len P4) (d := .str (cutL s none (some at_) ++ (w ++ cutL s (some at_) none))), P4, by simp; omega⟩
    simp [m__law_bent, sSeq, Ss.seq, sIf, sE, sSet, sRet, sRetN, sExpr, sAsg, sAug, sPar, sNil, stv, gN, gSubD, gTupD, gsNil, gsCons, putD, tBin, tIs, tTru, truD, tAndB, tOrB, tNotB, eBin, eUn, eChain, eIf, eC, eVar, lk, eCall, eCallF, one1, two2, lenD, absD, intV, tupleD, aCons, aNil, eTup, eLst, eMut, eFrz, frzD, eMeth, Bt.is, mAppend, mPop, mExtend, mJoin, liveL, Rs.bind, isB, oCmpI, oAdd, oSub, oDiv, oMod, oNeg, dicOf, keyD, lstOf, lstH, seqL, oEq, oNe, eqD, scalD, oIn, oNotIn, inD, flatD, eqF, oIs, oIsNot, isNonD, eSl, oSl, oSome, oNone, DL.intD, eIsi, tyD, isiAny, Ty.is, iAny, DL.iRng1, List.getElem?_cons_zero, List.getElem?_cons_succ, List.set_cons_zero, List.set_cons_succ, List.length_cons, List.length_nil, Option.isSome, e1, e2, ic, e3, hc, e4, sm0, sm1, sm2, sm4, iw]
  | false =>
    have sm1 : small ((cutL s none (some at_)).length + 1) = true := decide_eq_true (by omega)
    have sm2 : small ((cutL s none (some at_)).length + 1 + (cutL s (some (at_ + m5)) none).length) = true := decide_eq_true (by omega)
    refine ⟨_, h5, mkF_rt (ρ := [.ref 0, .str s, .u, .u]) rfl ?_ (P.len P5) (d := .str (cutL s none (some at_) ++ c :: cutL s (some (at_ + m5)) none)), P5, by simp; omega⟩
    simp [m__law_bent, sSeq, Ss.seq, sIf, sE, sSet, sRet, sRetN, sExpr, sAsg, sAug, sPar, sNil, stv, gN, gSubD, gTupD, gsNil, gsCons, putD, tBin, tIs, tTru, truD, tAndB, tOrB, tNotB, eBin, eUn, eChain, eIf, eC, eVar, lk, eCall, eCallF, one1, two2, lenD, absD, intV, tupleD, aCons, aNil, eTup, eLst, eMut, eFrz, frzD, eMeth, Bt.is, mAppend, mPop, mExtend, mJoin, liveL, Rs.bind, isB, oCmpI, oAdd, oSub, oDiv, oMod, oNeg, dicOf, keyD, lstOf, lstH, seqL, oEq, oNe, eqD, scalD, oIn, oNotIn, inD, flatD, eqF, oIs, oIsNot, isNonD, eSl, oSl, oSome, oNone, DL.intD, eIsi, tyD, isiAny, Ty.is, iAny, DL.iRng1, List.getElem?_cons_zero, List.getElem?_cons_succ, List.set_cons_zero, List.set_cons_succ, List.length_cons, List.length_nil, Option.isSome, e1, e2, ic, e3, hc, e5, sm0, sm1, sm2]

theorem ix_at {s : List Nat} {j : Nat} (hj : j < s.length) (hl : s.length ≤ 100000) (h : Mh) : oIx (.str s) (.int (j : Int)) h = .ok (.str [s[j]]) h := by
  have sm : small s.length = true := decide_eq_true (by omega)
  have ix : atI s (j : Int) = some s[j] := by
    unfold atI ixN
    rw [if_pos (by omega), if_pos (by omega)]
    exact List.getElem?_eq_getElem hj
  show (match small s.length, atI s (j : Int) with
    | true, some c => Rs.ok (D.str [c]) h
    | _, _ => .no) = _
  rw [sm, ix]
abbrev tw (l : List Nat) (s : List Nat) : List Nat := s.takeWhile fun c => decide (c ∈ l)
theorem stretch_loop {s l : List Nat} (i : D) (hl : s.length ≤ 100000) : ∀ (fu j : Nat) (h : Mh), j ≤ s.length → s.length - j < fu →
    whl lc_stretch_end_1 lb_stretch_end_0 fu [.str s, i, .str l, .int (j : Int)] h = .nx [.str s, i, .str l, .int ((j + (tw l (s.drop j)).length : Nat) : Int)] h
  | 0, j, h, _, hf => by omega
  | fu + 1, j, h, hj, hf => by
    unfold whl
    have sm : small s.length = true := decide_eq_true (by omega)
    by_cases hlt : j < s.length
    · have e1 := ix_at hlt hl
      by_cases hm : s[j] ∈ l
      · have ih := stretch_loop (l := l) i hl fu (j + 1) h (by omega) (by omega)
        have e2 : (tw l (s.drop j)).length = (tw l (s.drop (j + 1))).length + 1 := by
          rw [List.drop_eq_getElem_cons hlt]
          unfold tw
          rw [List.takeWhile_cons_of_pos (by exact decide_eq_true hm), List.length_cons]
        rw [e2]
        have e3 : ((j : Int) + 1) = ((j + 1 : Nat) : Int) := by omega
        have e4 : j + ((tw l (s.drop (j + 1))).length + 1) = (j + 1) + (tw l (s.drop (j + 1))).length := by omega
        rw [e4, ← ih]
        simp [lc_stretch_end_1, lb_stretch_end_0, sSeq, Ss.seq, sIf, sE, sSet, sRet, sRetN, sExpr, sAsg, sAug, sPar, sNil, stv, gN, gSubD, gTupD, gsNil, gsCons, putD, tBin, tIs, tTru, truD, tAndB, tOrB, tNotB, eBin, eUn, eChain, eIf, eC, eVar, lk, eCall, eCallF, one1, two2, lenD, absD, intV, tupleD, aCons, aNil, eTup, eLst, eMut, eFrz, frzD, eMeth, Bt.is, mAppend, mPop, mExtend, mJoin, liveL, Rs.bind, isB, oCmpI, oAdd, oSub, oDiv, oMod, oNeg, dicOf, keyD, lstOf, lstH, seqL, oEq, oNe, eqD, scalD, oIn, oNotIn, inD, flatD, eqF, oIs, oIsNot, isNonD, eSl, oSl, oSome, oNone, DL.intD, eIsi, tyD, isiAny, Ty.is, iAny, DL.iRng1, List.getElem?_cons_zero, List.getElem?_cons_succ, List.set_cons_zero, List.set_cons_succ, List.length_cons, List.length_nil, Option.isSome, oInt, hlt, e1, hm, sm]
      · have e2 : (tw l (s.drop j)).length = 0 := by
          rw [List.drop_eq_getElem_cons hlt]
          unfold tw
          rw [List.takeWhile_cons_of_neg (by simpa using hm)]
          rfl
        rw [e2]
        simp [lc_stretch_end_1, lb_stretch_end_0, sSeq, Ss.seq, sIf, sE, sSet, sRet, sRetN, sExpr, sAsg, sAug, sPar, sNil, stv, gN, gSubD, gTupD, gsNil, gsCons, putD, tBin, tIs, tTru, truD, tAndB, tOrB, tNotB, eBin, eUn, eChain, eIf, eC, eVar, lk, eCall, eCallF, one1, two2, lenD, absD, intV, tupleD, aCons, aNil, eTup, eLst, eMut, eFrz, frzD, eMeth, Bt.is, mAppend, mPop, mExtend, mJoin, liveL, Rs.bind, isB, oCmpI, oAdd, oSub, oDiv, oMod, oNeg, dicOf, keyD, lstOf, lstH, seqL, oEq, oNe, eqD, scalD, oIn, oNotIn, inD, flatD, eqF, oIs, oIsNot, isNonD, eSl, oSl, oSome, oNone, DL.intD, eIsi, tyD, isiAny, Ty.is, iAny, DL.iRng1, List.getElem?_cons_zero, List.getElem?_cons_succ, List.set_cons_zero, List.set_cons_succ, List.length_cons, List.length_nil, Option.isSome, oInt, hlt, e1, hm, sm]
    · have e2 : s.drop j = [] := List.drop_eq_nil_of_le (by omega)
      rw [e2]
      simp [lc_stretch_end_1, lb_stretch_end_0, sSeq, Ss.seq, sIf, sE, sSet, sRet, sRetN, sExpr, sAsg, sAug, sPar, sNil, stv, gN, gSubD, gTupD, gsNil, gsCons, putD, tBin, tIs, tTru, truD, tAndB, tOrB, tNotB, eBin, eUn, eChain, eIf, eC, eVar, lk, eCall, eCallF, one1, two2, lenD, absD, intV, tupleD, aCons, aNil, eTup, eLst, eMut, eFrz, frzD, eMeth, Bt.is, mAppend, mPop, mExtend, mJoin, liveL, Rs.bind, isB, oCmpI, oAdd, oSub, oDiv, oMod, oNeg, dicOf, keyD, lstOf, lstH, seqL, oEq, oNe, eqD, scalD, oIn, oNotIn, inD, flatD, eqF, oIs, oIsNot, isNonD, eSl, oSl, oSome, oNone, DL.intD, eIsi, tyD, isiAny, Ty.is, iAny, DL.iRng1, List.getElem?_cons_zero, List.getElem?_cons_succ, List.set_cons_zero, List.set_cons_succ, List.length_cons, List.length_nil, Option.isSome, oInt, hlt, sm]
theorem stretch_end_ok {s l : List Nat} {i : Nat} (hl : s.length ≤ 100000) (hi : i ≤ s.length) (h : Mh) : F_stretch_end [.str s, .int (i : Int), .str l] h = .ok (.int ((i + (tw l (s.drop i)).length : Nat) : Int)) h := by
  refine mkF_rt (ρ := [.str s, .int (i : Int), .str l, .u]) rfl ?_ rfl
  have e := stretch_loop (s := s) (l := l) (.int (i : Int)) hl (s.length + 1) i h hi (by omega)
  simp [m_stretch_end, sSeq, Ss.seq, sIf, sE, sSet, sRet, sRetN, sExpr, sAsg, sAug, sPar, sNil, stv, gN, gSubD, gTupD, gsNil, gsCons, putD, tBin, tIs, tTru, truD, tAndB, tOrB, tNotB, eBin, eUn, eChain, eIf, eC, eVar, lk, eCall, eCallF, one1, two2, lenD, absD, intV, tupleD, aCons, aNil, eTup, eLst, eMut, eFrz, frzD, eMeth, Bt.is, mAppend, mPop, mExtend, mJoin, liveL, Rs.bind, isB, oCmpI, oAdd, oSub, oDiv, oMod, oNeg, dicOf, keyD, lstOf, lstH, seqL, oEq, oNe, eqD, scalD, oIn, oNotIn, inD, flatD, eqF, oIs, oIsNot, isNonD, eSl, oSl, oSome, oNone, DL.intD, eIsi, tyD, isiAny, Ty.is, iAny, DL.iRng1, List.getElem?_cons_zero, List.getElem?_cons_succ, List.set_cons_zero, List.set_cons_succ, List.length_cons, List.length_nil, Option.isSome, sWhile, fu_stretch_end_0, e]

section
variable {h0 : Mh} {xs : List D} {d e : D}
theorem at_last {o : Ob} : (h0 ++ [o])[h0.length]? = some o := by simp
theorem set_last {o o' : Ob} : (h0 ++ [o]).set h0.length o' = h0 ++ [o'] := by simp
theorem ixN_last : ixN (xs ++ [d]).length (-1) = some xs.length := by
  unfold ixN
  rw [if_neg (by decide), List.length_append, List.length_singleton, if_pos (by omega)]
  congr 1
  omega
theorem ix_last : oIx (.ref h0.length) (.int (-1)) (h0 ++ [.lst (xs ++ [d])]) = .ok d (h0 ++ [.lst (xs ++ [d])]) := by
  unfold oIx dicOf
  simp only [at_last]
  unfold oIxS lstOf
  simp only [at_last]
  unfold atI
  rw [ixN_last]
  simp
theorem put_last : putD (.ref h0.length) (.int (-1)) e (h0 ++ [.lst (xs ++ [d])]) = some (h0 ++ [.lst (xs ++ [e])]) := by
  unfold putD
  simp only [at_last, ixN_last, set_last]
  simp
theorem app_last (hl : xs.length ≤ 1000000) : mAppend (.ref h0.length) [e] (h0 ++ [.lst xs]) = .ok .non (h0 ++ [.lst (xs ++ [e])]) := by
  unfold mAppend liveL
  simp only [at_last, set_last, show small (xs.length + 1) = true from decide_eq_true (by omega)]
theorem isl_last : Bt.is .list (.ref h0.length) (h0 ++ [.lst xs]) = true := by
  unfold Bt.is lstOf
  simp only [at_last]
  rfl
theorem tup_last : tupleD (.ref h0.length) (h0 ++ [Ob.lst xs]) = .ok (.tup xs) (h0 ++ [Ob.lst xs]) := by
  unfold tupleD
  show (match seqL (.ref h0.length) (h0 ++ [Ob.lst xs]) with
    | some ds => Rs.ok (D.tup ds) (h0 ++ [Ob.lst xs])
    | none => .no) = _
  unfold seqL lstOf
  simp only [at_last]
end
abbrev LL : List Nat := [97,98,99,100,101,102,103,104,105,106,107,108,109,110,111,112,113,114,115,116,117,118,119,120,121,122]
abbrev FF : List Nat := [48,49,50,51,52,53,54,55,56,57]
abbrev S6 : List Nat := [43,45,42,47,40,41]
def app1 (told : List (List Nat)) (c : Nat) : List (List Nat) := told.dropLast ++ [told.getLastD [] ++ [c]]
def run : Nat → List (List Nat) → List Nat → Option (List (List Nat))
  | _, told, [] => some told
  | st, told, c :: r =>
    if (st = 1 ∧ (c ∈ LL ∨ c ∈ FF)) ∨ (st = 2 ∧ (c ∈ FF ∨ c = 46)) then run st (app1 told c) r
    else if c ∈ LL then run 1 (told ++ [[c]]) r
    else if c ∈ FF then run 2 (told ++ [[c]]) r
    else if c ∈ S6 then run 0 (told ++ [[c]]) r
    else if c = 32 then run 0 told r
    else none
theorem app1_eq (ws : List (List Nat)) (w : List Nat) (c : Nat) : app1 (ws ++ [w]) c = ws ++ [w ++ [c]] := by
  unfold app1
  simp
def stc : Nat → List Nat
  | 0 => []
  | 1 => [110,97,109,101]
  | _ => [110,117,109,98,101,114]
/-- words as values -/
abbrev wv (ws : List (List Nat)) : List D := ws.map D.str
theorem eq_str (a b : List Nat) (h : Mh) : oEq (.str a) (.str b) h = .ok (.bl (decide (a = b))) h := rfl
theorem in_str (c : Nat) (l : List Nat) (h : Mh) : oIn (.str [c]) (.str l) h = .ok (.bl (decide (c ∈ l))) h := rfl
theorem eq_one (a b : Nat) : decide ([a] = [b]) = decide (a = b) := by
  by_cases h : a = b
  · subst h; simp
  · simp [h]
theorem st_name {st : Nat} (h : st ≤ 2) : decide (stc st = [110,97,109,101]) = decide (st = 1) := by
  rcases (by omega : st = 0 ∨ st = 1 ∨ st = 2) with rfl | rfl | rfl <;> decide
theorem st_num {st : Nat} (h : st ≤ 2) : decide (stc st = [110,117,109,98,101,114]) = decide (st = 2) := by
  rcases (by omega : st = 0 ∨ st = 1 ∨ st = 2) with rfl | rfl | rfl <;> decide
section
variable {h0 : Mh} {line y z : D} {c st : Nat}
/-- the sign goes to the last word -/
theorem due_same {ws : List (List Nat)} {w : List Nat} (hs : st ≤ 2) (h1 : (st = 1 ∧ (c ∈ LL ∨ c ∈ FF)) ∨ (st = 2 ∧ (c ∈ FF ∨ c = 46))) (hw : w.length ≤ 100000) :
    lb__law_due_0 [line, .ref h0.length, .str (stc st), .str [c], y, z] (h0 ++ [.lst (wv ws ++ [.str w])]) = .nx [line, .ref h0.length, .str (stc st), .str [c], .bl (decide (c ∈ LL)), .bl (decide (c ∈ FF))] (h0 ++ [.lst (wv ws ++ [.str (w ++ [c])])]) := by
  have ixl := ix_last (h0 := h0) (xs := wv ws) (d := .str w)
  have ptl := put_last (h0 := h0) (xs := wv ws) (d := .str w) (e := .str (w ++ [c]))
  have sm : small (w.length + 1) = true := decide_eq_true (by omega)
  have e1 := st_name hs
  have e2 := st_num hs
  generalize hL : decide (c ∈ LL) = bL at *
  generalize hF : decide (c ∈ FF) = bF at *
  rcases h1 with ⟨rfl, h1⟩ | ⟨rfl, h1⟩
  · have ho : bL = true ∨ (bL = false ∧ bF = true) := by
      rw [← hL, ← hF]
      by_cases z : c ∈ LL
      · exact .inl (decide_eq_true z)
      · exact .inr ⟨decide_eq_false z, decide_eq_true (h1.resolve_left z)⟩
    rcases ho with rfl | ⟨rfl, rfl⟩ <;> simp only [lb__law_due_0, sSeq, Ss.seq, sIf, sE, sSet, sRet, sRetN, sExpr, sAsg, sAug, sPar, sNil, stv, gN, gSubD, gTupD, gsNil, gsCons, tBin, tIs, tTru, truD, tAndB, tOrB, tNotB, eBin, eUn, eChain, eIf, eC, eVar, lk, eCall, eCallF, one1, two2, lenD, absD, intV, aCons, aNil, eTup, eLst, eMut, eFrz, frzD, eMeth, mPop, mExtend, mJoin, liveL, Rs.bind, isB, oCmpI, oAdd, oSub, oDiv, oMod, oNeg, dicOf, keyD, lstH, oIs, oIsNot, isNonD, eSl, oSl, oSome, oNone, DL.intD, eIsi, tyD, isiAny, Ty.is, iAny, DL.iRng1, List.getElem?_cons_zero, List.getElem?_cons_succ, List.set_cons_zero, List.set_cons_succ, List.length_cons, List.length_nil, Option.isSome, decide_true, decide_false, Bool.not_true, Bool.not_false, eq_str, in_str, e1, e2, hL, hF, ixl, ptl, sm]
  · have ho : bF = true ∨ (bF = false ∧ decide (c = 46) = true) := by
      rw [← hF]
      by_cases z : c ∈ FF
      · exact .inl (decide_eq_true z)
      · exact .inr ⟨decide_eq_false z, decide_eq_true (h1.resolve_left z)⟩
    have n1 : decide ((2 : Nat) = 1) = false := rfl
    rcases ho with rfl | ⟨rfl, h46⟩ <;> simp only [lb__law_due_0, sSeq, Ss.seq, sIf, sE, sSet, sRet, sRetN, sExpr, sAsg, sAug, sPar, sNil, stv, gN, gSubD, gTupD, gsNil, gsCons, tBin, tIs, tTru, truD, tAndB, tOrB, tNotB, eBin, eUn, eChain, eIf, eC, eVar, lk, eCall, eCallF, one1, two2, lenD, absD, intV, aCons, aNil, eTup, eLst, eMut, eFrz, frzD, eMeth, mPop, mExtend, mJoin, liveL, Rs.bind, isB, oCmpI, oAdd, oSub, oDiv, oMod, oNeg, dicOf, keyD, lstH, oIs, oIsNot, isNonD, eSl, oSl, oSome, oNone, DL.intD, eIsi, tyD, isiAny, Ty.is, iAny, DL.iRng1, List.getElem?_cons_zero, List.getElem?_cons_succ, List.set_cons_zero, List.set_cons_succ, List.length_cons, List.length_nil, Option.isSome, decide_true, decide_false, Bool.not_true, Bool.not_false, eq_str, in_str, e1, e2, n1, hL, hF, ixl, ptl, sm, eq_one] <;> try simp only [h46]
theorem due_new {told : List (List Nat)} (hs : st ≤ 2) (h1 : ¬ ((st = 1 ∧ (c ∈ LL ∨ c ∈ FF)) ∨ (st = 2 ∧ (c ∈ FF ∨ c = 46)))) (hl : told.length ≤ 100000) :
    lb__law_due_0 [line, .ref h0.length, .str (stc st), .str [c], y, z] (h0 ++ [.lst (wv told)]) =
      if c ∈ LL then .nx [line, .ref h0.length, .str (stc 1), .str [c], .bl (decide (c ∈ LL)), .bl (decide (c ∈ FF))] (h0 ++ [.lst (wv (told ++ [[c]]))])
      else if c ∈ FF then .nx [line, .ref h0.length, .str (stc 2), .str [c], .bl (decide (c ∈ LL)), .bl (decide (c ∈ FF))] (h0 ++ [.lst (wv (told ++ [[c]]))])
      else if c ∈ S6 then .nx [line, .ref h0.length, .str (stc 0), .str [c], .bl (decide (c ∈ LL)), .bl (decide (c ∈ FF))] (h0 ++ [.lst (wv (told ++ [[c]]))])
      else if c = 32 then .nx [line, .ref h0.length, .str (stc 0), .str [c], .bl (decide (c ∈ LL)), .bl (decide (c ∈ FF))] (h0 ++ [.lst (wv told)])
      else .rt .non (h0 ++ [.lst (wv told)]) := by
  have ap := app_last (h0 := h0) (xs := wv told) (e := .str [c]) (by unfold wv; rw [List.length_map]; omega)
  have il := isl_last (h0 := h0) (xs := wv told)
  have ew : wv (told ++ [[c]]) = wv told ++ [.str [c]] := by unfold wv; simp
  have e1 := st_name hs
  have e2 := st_num hs
  rw [ew]
  have c1 : (decide (st = 1) && (decide (c ∈ LL) || decide (c ∈ FF))) = false := by
    by_cases z : st = 1
    · have : ¬ (c ∈ LL ∨ c ∈ FF) := fun w => h1 (.inl ⟨z, w⟩)
      simp only [not_or] at this
      rw [decide_eq_false this.1, decide_eq_false this.2, Bool.or_false, Bool.and_false]
    · rw [decide_eq_false z, Bool.false_and]
  have c2 : (decide (st = 2) && (decide (c ∈ FF) || decide (c = 46))) = false := by
    by_cases z : st = 2
    · have : ¬ (c ∈ FF ∨ c = 46) := fun w => h1 (.inr ⟨z, w⟩)
      simp only [not_or] at this
      rw [decide_eq_false this.1, decide_eq_false this.2, Bool.or_false, Bool.and_false]
    · rw [decide_eq_false z, Bool.false_and]
  by_cases hL : c ∈ LL
  · have dL := decide_eq_true hL
    rw [if_pos hL]
    generalize hF : decide (c ∈ FF) = bF at *
    generalize hb1 : decide (st = 1) = b1 at *
    generalize hb2 : decide (st = 2) = b2 at *
    generalize h46 : decide (c = 46) = b46 at *
    rw [dL] at c1 ⊢
    cases b1 <;> cases b2 <;> cases bF <;> cases b46 <;> first | (exact absurd c1 (by decide)) | (exact absurd c2 (by decide)) | (simp only [lb__law_due_0, sSeq, Ss.seq, sIf, sE, sSet, sRet, sRetN, sExpr, sAsg, sAug, sPar, sNil, stv, gN, gSubD, gTupD, gsNil, gsCons, tBin, tIs, tTru, truD, tAndB, tOrB, tNotB, eBin, eUn, eChain, eIf, eC, eVar, lk, eCall, eCallF, one1, two2, lenD, absD, intV, aCons, aNil, eTup, eLst, eMut, eFrz, frzD, eMeth, mPop, mExtend, mJoin, liveL, Rs.bind, isB, oCmpI, oAdd, oSub, oDiv, oMod, oNeg, dicOf, keyD, lstH, oIs, oIsNot, isNonD, eSl, oSl, oSome, oNone, DL.intD, eIsi, tyD, isiAny, Ty.is, iAny, DL.iRng1, List.getElem?_cons_zero, List.getElem?_cons_succ, List.set_cons_zero, List.set_cons_succ, List.length_cons, List.length_nil, Option.isSome, decide_true, decide_false, Bool.not_true, Bool.not_false, eq_str, in_str, e1, e2, hF, dL, eq_one, h46, ap, il]; rfl)
  · have dL := decide_eq_false hL
    rw [if_neg hL]
    by_cases hF : c ∈ FF
    · have dF := decide_eq_true hF
      rw [if_pos hF]
      generalize hb1 : decide (st = 1) = b1 at *
      generalize hb2 : decide (st = 2) = b2 at *
      generalize h46 : decide (c = 46) = b46 at *
      rw [dL, dF] at c1 ⊢
      rw [dF] at c2
      cases b1 <;> cases b2 <;> cases b46 <;> first | (exact absurd c1 (by decide)) | (exact absurd c2 (by decide)) | (simp only [lb__law_due_0, sSeq, Ss.seq, sIf, sE, sSet, sRet, sRetN, sExpr, sAsg, sAug, sPar, sNil, stv, gN, gSubD, gTupD, gsNil, gsCons, tBin, tIs, tTru, truD, tAndB, tOrB, tNotB, eBin, eUn, eChain, eIf, eC, eVar, lk, eCall, eCallF, one1, two2, lenD, absD, intV, aCons, aNil, eTup, eLst, eMut, eFrz, frzD, eMeth, mPop, mExtend, mJoin, liveL, Rs.bind, isB, oCmpI, oAdd, oSub, oDiv, oMod, oNeg, dicOf, keyD, lstH, oIs, oIsNot, isNonD, eSl, oSl, oSome, oNone, DL.intD, eIsi, tyD, isiAny, Ty.is, iAny, DL.iRng1, List.getElem?_cons_zero, List.getElem?_cons_succ, List.set_cons_zero, List.set_cons_succ, List.length_cons, List.length_nil, Option.isSome, decide_true, decide_false, Bool.not_true, Bool.not_false, eq_str, in_str, e1, e2, dF, dL, eq_one, h46, ap, il]; rfl)
    · have dF := decide_eq_false hF
      rw [if_neg hF]
      have key : lb__law_due_0 [line, .ref h0.length, .str (stc st), .str [c], y, z] (h0 ++ [.lst (wv told)]) =
          sIf (tBin oIn (eVar 3) (eC (.str [43,45,42,47,40,41]))) (sSeq (sSet 2 (eC (.str []))) (sExpr (eMeth .list mAppend (eVar 1) (aCons (eVar 3) aNil)))) (sIf (tBin oEq (eVar 3) (eC (.str [32]))) (sSet 2 (eC (.str []))) (sRet (eC .non)))
            [line, .ref h0.length, .str (stc st), .str [c], .bl false, .bl false] (h0 ++ [.lst (wv told)]) := by
        generalize hb1 : decide (st = 1) = b1 at *
        generalize hb2 : decide (st = 2) = b2 at *
        generalize h46 : decide (c = 46) = b46 at *
        rw [dL, dF] at c1
        rw [dF] at c2
        cases b1 <;> cases b2 <;> cases b46 <;> first | (exact absurd c1 (by decide)) | (exact absurd c2 (by decide)) | (simp only [lb__law_due_0, sSeq, Ss.seq, sIf, sE, sSet, sRet, sRetN, sExpr, sAsg, sAug, sPar, sNil, stv, gN, gSubD, gTupD, gsNil, gsCons, tBin, tIs, tTru, truD, tAndB, tOrB, tNotB, eBin, eUn, eChain, eIf, eC, eVar, lk, eCall, eCallF, one1, two2, lenD, absD, intV, aCons, aNil, eTup, eLst, eMut, eFrz, frzD, eMeth, mPop, mExtend, mJoin, liveL, Rs.bind, isB, oCmpI, oAdd, oSub, oDiv, oMod, oNeg, dicOf, keyD, lstH, oIs, oIsNot, isNonD, eSl, oSl, oSome, oNone, DL.intD, eIsi, tyD, isiAny, Ty.is, iAny, DL.iRng1, List.getElem?_cons_zero, List.getElem?_cons_succ, List.set_cons_zero, List.set_cons_succ, List.length_cons, List.length_nil, Option.isSome, decide_true, decide_false, Bool.not_true, Bool.not_false, eq_str, in_str, e1, e2, dF, dL, eq_one, h46, ap, il])
      rw [key, dL, dF]
      by_cases hS : c ∈ S6
      · have dS := decide_eq_true hS
        rw [if_pos hS]
        simp only [sSeq, Ss.seq, sIf, sE, sSet, sRet, sRetN, sExpr, sAsg, sAug, sPar, sNil, stv, gN, gSubD, gTupD, gsNil, gsCons, tBin, tIs, tTru, truD, tAndB, tOrB, tNotB, eBin, eUn, eChain, eIf, eC, eVar, lk, eCall, eCallF, one1, two2, lenD, absD, intV, aCons, aNil, eTup, eLst, eMut, eFrz, frzD, eMeth, mPop, mExtend, mJoin, liveL, Rs.bind, isB, oCmpI, oAdd, oSub, oDiv, oMod, oNeg, dicOf, keyD, lstH, oIs, oIsNot, isNonD, eSl, oSl, oSome, oNone, DL.intD, eIsi, tyD, isiAny, Ty.is, iAny, DL.iRng1, List.getElem?_cons_zero, List.getElem?_cons_succ, List.set_cons_zero, List.set_cons_succ, List.length_cons, List.length_nil, Option.isSome, decide_true, decide_false, Bool.not_true, Bool.not_false, eq_str, in_str, dS, ap, il]
        rfl
      · have dS := decide_eq_false hS
        rw [if_neg hS]
        by_cases h32 : c = 32
        · have d32 := decide_eq_true h32
          rw [if_pos h32]
          simp only [sSeq, Ss.seq, sIf, sE, sSet, sRet, sRetN, sExpr, sAsg, sAug, sPar, sNil, stv, gN, gSubD, gTupD, gsNil, gsCons, tBin, tIs, tTru, truD, tAndB, tOrB, tNotB, eBin, eUn, eChain, eIf, eC, eVar, lk, eCall, eCallF, one1, two2, lenD, absD, intV, aCons, aNil, eTup, eLst, eMut, eFrz, frzD, eMeth, mPop, mExtend, mJoin, liveL, Rs.bind, isB, oCmpI, oAdd, oSub, oDiv, oMod, oNeg, dicOf, keyD, lstH, oIs, oIsNot, isNonD, eSl, oSl, oSome, oNone, DL.intD, eIsi, tyD, isiAny, Ty.is, iAny, DL.iRng1, List.getElem?_cons_zero, List.getElem?_cons_succ, List.set_cons_zero, List.set_cons_succ, List.length_cons, List.length_nil, Option.isSome, decide_true, decide_false, Bool.not_true, Bool.not_false, eq_str, in_str, dS, ap, il, eq_one, d32]
          rfl
        · have d32 := decide_eq_false h32
          rw [if_neg h32]
          simp only [sSeq, Ss.seq, sIf, sE, sSet, sRet, sRetN, sExpr, sAsg, sAug, sPar, sNil, stv, gN, gSubD, gTupD, gsNil, gsCons, tBin, tIs, tTru, truD, tAndB, tOrB, tNotB, eBin, eUn, eChain, eIf, eC, eVar, lk, eCall, eCallF, one1, two2, lenD, absD, intV, aCons, aNil, eTup, eLst, eMut, eFrz, frzD, eMeth, mPop, mExtend, mJoin, liveL, Rs.bind, isB, oCmpI, oAdd, oSub, oDiv, oMod, oNeg, dicOf, keyD, lstH, oIs, oIsNot, isNonD, eSl, oSl, oSome, oNone, DL.intD, eIsi, tyD, isiAny, Ty.is, iAny, DL.iRng1, List.getElem?_cons_zero, List.getElem?_cons_succ, List.set_cons_zero, List.set_cons_succ, List.length_cons, List.length_nil, Option.isSome, decide_true, decide_false, Bool.not_true, Bool.not_false, eq_str, in_str, dS, ap, il, eq_one, d32]
end
/-- the whole line -/
theorem due_loop {h0 : Mh} {line : D} : ∀ (s : List Nat) (st : Nat) (told : List (List Nat)) (x y z : D), st ≤ 2 → (st ≠ 0 → told ≠ []) → told.length + s.length ≤ 100000 → (∀ w ∈ told, w.length + s.length ≤ 100000) →
    match run st told s with
    | some ws => ∃ (st' : Nat) (x' y' z' : D), forL (gN 3) lb__law_due_0 (s.map fun c => D.str [c]) [line, .ref h0.length, .str (stc st), x, y, z] (h0 ++ [.lst (wv told)]) = .nx [line, .ref h0.length, .str (stc st'), x', y', z'] (h0 ++ [.lst (wv ws)])
    | none => ∃ ws, forL (gN 3) lb__law_due_0 (s.map fun c => D.str [c]) [line, .ref h0.length, .str (stc st), x, y, z] (h0 ++ [.lst (wv told)]) = .rt .non (h0 ++ [.lst (wv ws)])
  | [], st, told, x, y, z, _, _, _, _ => ⟨st, x, y, z, rfl⟩
  | c :: r, st, told, x, y, z, hs, hn, hl, hw => by
    rw [List.length_cons] at hl
    unfold run
    rw [List.map_cons]
    unfold forL
    have gn : gN 3 (.str [c]) [line, .ref h0.length, .str (stc st), x, y, z] (h0 ++ [.lst (wv told)]) = some ([line, .ref h0.length, .str (stc st), .str [c], y, z], h0 ++ [.lst (wv told)]) := rfl
    simp only [gn]
    by_cases h1 : (st = 1 ∧ (c ∈ LL ∨ c ∈ FF)) ∨ (st = 2 ∧ (c ∈ FF ∨ c = 46))
    · rw [if_pos h1]
      have ne : told ≠ [] := hn (by rcases h1 with h | h <;> omega)
      obtain ⟨ws, w, rfl⟩ : ∃ ws w, told = ws ++ [w] := ⟨told.dropLast, told.getLast ne, (List.dropLast_concat_getLast ne).symm⟩
      rw [app1_eq]
      have hwl := hw w (by simp)
      rw [List.length_cons] at hwl
      have ih := due_loop (h0 := h0) (line := line) r st (ws ++ [w ++ [c]]) (.str [c]) (.bl (decide (c ∈ LL))) (.bl (decide (c ∈ FF))) hs (fun _ => by simp) (by simp at hl ⊢; omega) (fun w' hm => by
        rcases List.mem_append.mp hm with hm | hm
        · have := hw w' (List.mem_append_left _ hm); rw [List.length_cons] at this; omega
        · rw [List.mem_singleton.mp hm]; simp; omega)
      have step := due_same (h0 := h0) (line := line) (y := y) (z := z) (ws := ws) (w := w) hs h1 (by omega)
      have e1 : wv (ws ++ [w]) = wv ws ++ [.str w] := by unfold wv; simp
      have e2 : wv (ws ++ [w ++ [c]]) = wv ws ++ [.str (w ++ [c])] := by unfold wv; simp
      rw [e2] at ih
      rw [e1]
      simp only [step]
      exact ih
    · rw [if_neg h1]
      have step := due_new (h0 := h0) (line := line) (y := y) (z := z) (told := told) hs h1 (by omega)
      simp only [step]
      have hw2 : ∀ w' ∈ told ++ [[c]], w'.length + r.length ≤ 100000 := fun w' hm => by
        rcases List.mem_append.mp hm with hm | hm
        · have := hw w' hm; rw [List.length_cons] at this; omega
        · rw [List.mem_singleton.mp hm]; simp; omega
      by_cases hL : c ∈ LL
      · simp only [if_pos hL]
        exact due_loop (h0 := h0) (line := line) r 1 (told ++ [[c]]) _ _ _ (by decide) (fun _ => by simp) (by simp; omega) hw2
      · simp only [if_neg hL]
        by_cases hF : c ∈ FF
        · simp only [if_pos hF]
          exact due_loop (h0 := h0) (line := line) r 2 (told ++ [[c]]) _ _ _ (by decide) (fun _ => by simp) (by simp; omega) hw2
        · simp only [if_neg hF]
          by_cases hS : c ∈ S6
          · simp only [if_pos hS]
            exact due_loop (h0 := h0) (line := line) r 0 (told ++ [[c]]) _ _ _ (by decide) (fun _ => by simp) (by simp; omega) hw2
          · simp only [if_neg hS]
            by_cases h32 : c = 32
            · simp only [if_pos h32]
              exact due_loop (h0 := h0) (line := line) r 0 told _ _ _ (by decide) (fun h => absurd rfl h) (by omega) (fun w' hm => by have := hw w' hm; rw [List.length_cons] at this; omega)
            · simp only [if_neg h32]
              exact ⟨told, rfl⟩
/-- what the law is due to tell -/
def dueD (s : List Nat) : D := match run 0 [] s with
  | some ws => .tup (wv ws)
  | none => .non

def HB (h : Mh) : Prop := h.all (bndO h.length) = true
theorem gcR_drop {d : D} {h : Mh} {o : Ob} (hb : HB h) (bd : bndD h.length d = true) : gcR h.length (.ok d (h ++ [o])) = .ok d h := by
  have e : (h ++ [o]).take h.length = h := by rw [List.take_append_of_le_length (Nat.le_refl _), List.take_length]
  show (match bndD h.length d && ((h ++ [o]).take h.length).all (bndO h.length) with
    | true => Rs.ok d ((h ++ [o]).take h.length)
    | false => .ok d (h ++ [o])) = _
  rw [e, bd, show h.all (bndO h.length) = true from hb]
  rfl
theorem bnd_wv (n : Nat) : ∀ ws : List (List Nat), bndDs n (wv ws) = true
  | [] => rfl
  | w :: ws => by
    show (bndD n (.str w) && bndDs n (wv ws)) = true
    rw [bnd_wv n ws]
    rfl
theorem bnd_due (n : Nat) (s : List Nat) : bndD n (dueD s) = true := by
  unfold dueD
  cases run 0 [] s with
  | none => rfl
  | some ws => exact bnd_wv n ws
theorem mkF_drop {n : Nat} {b : SS} {ds ρ : List D} {h : Mh} {d : D} {o : Ob} (er : ds ++ List.replicate (n - ds.length) .u = ρ) (hb : HB h) (bd : bndD h.length d = true) (e : b ρ h = .rt d (h ++ [o])) : mkF n b ds h = .ok d h := by
  unfold mkF
  rw [er, e]
  exact gcR_drop hb bd
theorem run_len : ∀ (s : List Nat) (st : Nat) (told : List (List Nat)) (ws : List (List Nat)), run st told s = some ws → ws.length ≤ told.length + s.length + 1
  | [], st, told, ws, e => by
    unfold run at e
    cases e
    omega
  | c :: r, st, told, ws, e => by
    unfold run at e
    rw [List.length_cons]
    have l1 : (app1 told c).length ≤ told.length + 1 := by unfold app1; simp
    split at e
    · by_cases ht : told = []
      · subst ht
        have := run_len r _ _ _ e
        simp at l1
        omega
      · have := run_len r _ _ _ e
        have l2 : (app1 told c).length = told.length := by
          unfold app1
          have := List.length_pos_iff.mpr ht
          simp
          omega
        omega
    · split at e
      · have := run_len r _ _ _ e; simp at this; omega
      · split at e
        · have := run_len r _ _ _ e; simp at this; omega
        · split at e
          · have := run_len r _ _ _ e; simp at this; omega
          · split at e
            · have := run_len r _ _ _ e; omega
            · cases e
theorem due_ok {s : List Nat} {h : Mh} (hl : s.length ≤ 10000) (hb : HB h) : F__law_due [.str s] h = .ok (dueD s) h := by
  have L := due_loop (h0 := h) (line := .str s) s 0 [] .u .u .u (by decide) (fun h => absurd rfl h) (by simp; omega) (fun w hm => by cases hm)
  have sm : small 0 = true := rfl
  cases e : run 0 [] s with
  | none =>
    rw [e] at L
    obtain ⟨ws, L⟩ := L
    have ed : dueD s = .non := by unfold dueD; rw [e]
    rw [ed]
    refine mkF_drop (ρ := [.str s, .u, .u, .u, .u, .u]) (o := .lst (wv ws)) rfl hb rfl ?_
    have L' : forL (gN 3) lb__law_due_0 (s.map fun c => D.str [c]) [.str s, .ref h.length, .str [], .u, .u, .u] (h ++ [.lst []]) = .rt .non (h ++ [.lst (wv ws)]) := L
    simp only [m__law_due, sSeq, Ss.seq, sIf, sE, sSet, sRet, sRetN, sExpr, sAsg, sAug, sPar, sNil, stv, gN, gSubD, gTupD, gsNil, gsCons, tBin, tIs, tTru, truD, tAndB, tOrB, tNotB, eBin, eUn, eChain, eIf, eC, eVar, lk, eCall, eCallF, one1, two2, lenD, absD, intV, aCons, aNil, eTup, eLst, eMut, eFrz, frzD, eMeth, mPop, mExtend, mJoin, liveL, Rs.bind, isB, oCmpI, oAdd, oSub, oDiv, oMod, oNeg, dicOf, keyD, lstH, oIs, oIsNot, isNonD, eSl, oSl, oSome, oNone, DL.intD, eIsi, tyD, isiAny, Ty.is, iAny, DL.iRng1, List.getElem?_cons_zero, List.getElem?_cons_succ, List.set_cons_zero, List.set_cons_succ, List.length_cons, List.length_nil, Option.isSome, decide_true, decide_false, Bool.not_true, Bool.not_false, sFor, sm, L']
  | some ws =>
    rw [e] at L
    obtain ⟨st', x', y', z', L⟩ := L
    have ed : dueD s = .tup (wv ws) := by unfold dueD; rw [e]
    rw [ed]
    refine mkF_drop (ρ := [.str s, .u, .u, .u, .u, .u]) (o := .lst (wv ws)) rfl hb (bnd_wv _ ws) ?_
    have L' : forL (gN 3) lb__law_due_0 (s.map fun c => D.str [c]) [.str s, .ref h.length, .str [], .u, .u, .u] (h ++ [.lst []]) = .nx [.str s, .ref h.length, .str (stc st'), x', y', z'] (h ++ [.lst (wv ws)]) := L
    have tl := tup_last (h0 := h) (xs := wv ws)
    simp only [m__law_due, sSeq, Ss.seq, sIf, sE, sSet, sRet, sRetN, sExpr, sAsg, sAug, sPar, sNil, stv, gN, gSubD, gTupD, gsNil, gsCons, tBin, tIs, tTru, truD, tAndB, tOrB, tNotB, eBin, eUn, eChain, eIf, eC, eVar, lk, eCall, eCallF, one1, two2, lenD, absD, intV, aCons, aNil, eTup, eLst, eMut, eFrz, frzD, eMeth, mPop, mExtend, mJoin, liveL, Rs.bind, isB, oCmpI, oAdd, oSub, oDiv, oMod, oNeg, dicOf, keyD, lstH, oIs, oIsNot, isNonD, eSl, oSl, oSome, oNone, DL.intD, eIsi, tyD, isiAny, Ty.is, iAny, DL.iRng1, List.getElem?_cons_zero, List.getElem?_cons_succ, List.set_cons_zero, List.set_cons_succ, List.length_cons, List.length_nil, Option.isSome, decide_true, decide_false, Bool.not_true, Bool.not_false, sFor, sm, L', tl]
/-! the program's own reading -/
theorem run_L : ∀ (r : List Nat) (told : List (List Nat)) (w : List Nat), run 1 (told ++ [w]) r = run 0 (told ++ [w ++ tw (LL ++ FF) r]) (r.drop (tw (LL ++ FF) r).length)
  | [], told, w => by simp [run]
  | c :: r, told, w => by
    by_cases h : c ∈ LL ++ FF
    · have h' : c ∈ LL ∨ c ∈ FF := List.mem_append.mp h
      have e1 : tw (LL ++ FF) (c :: r) = c :: tw (LL ++ FF) r := List.takeWhile_cons_of_pos (by exact decide_eq_true h)
      rw [e1, List.length_cons, List.drop_succ_cons]
      conv => lhs; unfold run
      rw [if_pos (.inl ⟨rfl, h'⟩), app1_eq, run_L r told (w ++ [c])]
      congr 2
      simp
    · have h' : ¬ (c ∈ LL ∨ c ∈ FF) := fun z => h (List.mem_append.mpr z)
      have e1 : tw (LL ++ FF) (c :: r) = [] := List.takeWhile_cons_of_neg (fun z => h (of_decide_eq_true z))
      rw [e1, List.length_nil, List.drop_zero, List.append_nil]
      conv => lhs; unfold run
      conv => rhs; unfold run
      have n0 : ¬ ((0 = 1 ∧ (c ∈ LL ∨ c ∈ FF)) ∨ (0 = 2 ∧ (c ∈ FF ∨ c = 46))) := fun z => z.elim (fun a => absurd a.1 (by decide)) fun a => absurd a.1 (by decide)
      rw [if_neg (fun z => z.elim (fun a => h' a.2) fun a => absurd a.1 (by decide)), if_neg n0]
theorem run_F : ∀ (r : List Nat) (told : List (List Nat)) (w : List Nat), run 2 (told ++ [w]) r = run 0 (told ++ [w ++ tw (FF ++ [46]) r]) (r.drop (tw (FF ++ [46]) r).length)
  | [], told, w => by simp [run]
  | c :: r, told, w => by
    by_cases h : c ∈ FF ++ [46]
    · have h' : c ∈ FF ∨ c = 46 := by rcases List.mem_append.mp h with z | z; exact .inl z; exact .inr (List.mem_singleton.mp z)
      have e1 : tw (FF ++ [46]) (c :: r) = c :: tw (FF ++ [46]) r := List.takeWhile_cons_of_pos (by exact decide_eq_true h)
      rw [e1, List.length_cons, List.drop_succ_cons]
      conv => lhs; unfold run
      rw [if_pos (.inr ⟨rfl, h'⟩), app1_eq, run_F r told (w ++ [c])]
      congr 2
      simp
    · have h' : ¬ (c ∈ FF ∨ c = 46) := fun z => h (List.mem_append.mpr (z.imp id List.mem_singleton.mpr))
      have e1 : tw (FF ++ [46]) (c :: r) = [] := List.takeWhile_cons_of_neg (fun z => h (of_decide_eq_true z))
      rw [e1, List.length_nil, List.drop_zero, List.append_nil]
      conv => lhs; unfold run
      conv => rhs; unfold run
      have n0 : ¬ ((0 = 1 ∧ (c ∈ LL ∨ c ∈ FF)) ∨ (0 = 2 ∧ (c ∈ FF ∨ c = 46))) := fun z => z.elim (fun a => absurd a.1 (by decide)) fun a => absurd a.1 (by decide)
      rw [if_neg (fun z => z.elim (fun a => absurd a.1 (by decide)) fun a => h' a.2), if_neg n0]

theorem take_tw (l : List Nat) : ∀ r : List Nat, r.take (tw l r).length = tw l r
  | [] => rfl
  | c :: r => by
    by_cases h : c ∈ l
    · have e1 : tw l (c :: r) = c :: tw l r := List.takeWhile_cons_of_pos (by exact decide_eq_true h)
      rw [e1, List.length_cons, List.take_succ_cons, take_tw l r]
    · have e1 : tw l (c :: r) = [] := List.takeWhile_cons_of_neg (fun z => h (of_decide_eq_true z))
      rw [e1]
      rfl
theorem tw_le (l : List Nat) : ∀ r : List Nat, (tw l r).length ≤ r.length
  | [] => Nat.le_refl _
  | c :: r => by
    by_cases h : c ∈ l
    · have e1 : tw l (c :: r) = c :: tw l r := List.takeWhile_cons_of_pos (by exact decide_eq_true h)
      have := tw_le l r
      rw [e1, List.length_cons, List.length_cons]
      omega
    · have e1 : tw l (c :: r) = [] := List.takeWhile_cons_of_neg (fun z => h (of_decide_eq_true z))
      rw [e1]
      exact Nat.zero_le _
theorem gl_i (i : Int) (ρ : List D) (h : Mh) : eC (.int i) ρ h = .ok (.int i) h := rfl
theorem gl_s (i : List Nat) (ρ : List D) (h : Mh) : eC (.str i) ρ h = .ok (.str i) h := rfl
theorem gl_n (ρ : List D) (h : Mh) : eC .non ρ h = .ok .non h := rfl
theorem cut_tw {s : List Nat} {i : Nat} (l : List Nat) (hi : i ≤ s.length) : cutL s (some (i : Int)) (some ((i + (tw l (s.drop i)).length : Nat) : Int)) = tw l (s.drop i) := by
  have h1 := tw_le l (s.drop i)
  rw [List.length_drop] at h1
  unfold cutL
  rw [HT.sIx_nat, HT.sIx_nat, Nat.min_eq_left hi, Nat.min_eq_left (by omega), Nat.add_sub_cancel_left]
  exact take_tw l _
theorem s6_no : ∀ c ∈ S6, ¬ c ∈ LL ∧ ¬ c ∈ FF := by decide
theorem bl_no : ¬ 32 ∈ LL ∧ ¬ 32 ∈ FF ∧ ¬ 32 ∈ S6 := by decide
theorem lf_no : ∀ c ∈ LL, ¬ c ∈ FF ∧ ¬ c ∈ S6 ∧ c ≠ 32 := by decide
theorem ff_no : ∀ c ∈ FF, ¬ c ∈ LL ∧ ¬ c ∈ S6 ∧ c ≠ 32 := by decide
theorem gl_L (ρ : List D) (h : Mh) : eC c_LETTERS ρ h = .ok (.str LL) h := rfl
theorem gl_F (ρ : List D) (h : Mh) : eC c_FIGURES ρ h = .ok (.str FF) h := rfl
theorem gl_S (ρ : List D) (h : Mh) : eC c_SIGNS ρ h = .ok (.str S6) h := rfl
theorem gl_B (ρ : List D) (h : Mh) : eC c_BLANK ρ h = .ok (.str [32]) h := rfl
theorem lex_step {s : List Nat} {h0 : Mh} {i : Nat} {told : List (List Nat)} {x y : D} (hl : s.length ≤ 10000) (hi : i < s.length) (ht : told.length ≤ 100000) :
    lb_lexemes_or_none_0 [.str s, .ref h0.length, .int (i : Int), x, y] (h0 ++ [.lst (wv told)]) =
      if s[i] = 32 then .nx [.str s, .ref h0.length, .int ((i + 1 : Nat) : Int), .str [s[i]], y] (h0 ++ [.lst (wv told)])
      else if s[i] ∈ S6 then .nx [.str s, .ref h0.length, .int ((i + 1 : Nat) : Int), .str [s[i]], y] (h0 ++ [.lst (wv (told ++ [[s[i]]]))])
      else if s[i] ∈ LL then .nx [.str s, .ref h0.length, .int ((i + (tw (LL ++ FF) (s.drop i)).length : Nat) : Int), .str [s[i]], .int ((i + (tw (LL ++ FF) (s.drop i)).length : Nat) : Int)] (h0 ++ [.lst (wv (told ++ [tw (LL ++ FF) (s.drop i)]))])
      else if s[i] ∈ FF then .nx [.str s, .ref h0.length, .int ((i + (tw (FF ++ [46]) (s.drop i)).length : Nat) : Int), .str [s[i]], .int ((i + (tw (FF ++ [46]) (s.drop i)).length : Nat) : Int)] (h0 ++ [.lst (wv (told ++ [tw (FF ++ [46]) (s.drop i)]))])
      else .rt .non (h0 ++ [.lst (wv told)]) := by
  have ew : ∀ w, wv (told ++ [w]) = wv told ++ [.str w] := fun w => by unfold wv; simp
  have ap : ∀ w, mAppend (.ref h0.length) [.str w] (h0 ++ [.lst (wv told)]) = .ok .non (h0 ++ [.lst (wv told ++ [.str w])]) := fun w => app_last (by unfold wv; rw [List.length_map]; omega)
  have il := isl_last (h0 := h0) (xs := wv told)
  have ix := ix_at hi (by omega)
  have e1 : (i : Int) + 1 = ((i + 1 : Nat) : Int) := by omega
  have sm : small s.length = true := decide_eq_true (by omega)
  have ad1 : ∀ h, oAdd (.str LL) (.str FF) h = .ok (.str (LL ++ FF)) h := fun _ => rfl
  have ad2 : ∀ h, oAdd (.str FF) (.str [46]) h = .ok (.str (FF ++ [46])) h := fun _ => rfl
  have se1 := fun h => stretch_end_ok (s := s) (l := LL ++ FF) (i := i) (by omega) (by omega) h
  have se2 := fun h => stretch_end_ok (s := s) (l := FF ++ [46]) (i := i) (by omega) (by omega) h
  have c1 := cut_tw (s := s) (i := i) (LL ++ FF) (by omega)
  have c2 := cut_tw (s := s) (i := i) (FF ++ [46]) (by omega)
  simp only [ew]
  generalize s[i] = c at *
  by_cases h32 : c = 32
  · have d := decide_eq_true h32
    rw [if_pos h32]
    simp only [lb_lexemes_or_none_0, sSeq, Ss.seq, sIf, sE, sSet, sRet, sRetN, sExpr, sAsg, sAug, sPar, sNil, stv, gN, gSubD, gTupD, gsNil, gsCons, tBin, tIs, tTru, truD, tAndB, tOrB, tNotB, eBin, eUn, eChain, eIf, eVar, lk, eCall, eCallF, one1, two2, lenD, absD, intV, aCons, aNil, eTup, eLst, eMut, eFrz, frzD, eMeth, mPop, mExtend, mJoin, liveL, Rs.bind, isB, oCmpI, oSub, oDiv, oMod, oNeg, dicOf, keyD, lstH, oIs, oIsNot, isNonD, eSl, oSl, oSome, oNone, DL.intD, eIsi, tyD, isiAny, Ty.is, iAny, DL.iRng1, List.getElem?_cons_zero, List.getElem?_cons_succ, List.set_cons_zero, List.set_cons_succ, List.length_cons, List.length_nil, Option.isSome, decide_true, decide_false, Bool.not_true, Bool.not_false, oInt, gl_i, gl_s, gl_n, gl_L, gl_F, gl_S, gl_B, ix, eq_str, in_str, eq_one, d, e1]
  · have d := decide_eq_false h32
    rw [if_neg h32]
    by_cases hS : c ∈ S6
    · have dS := decide_eq_true hS
      rw [if_pos hS]
      simp only [lb_lexemes_or_none_0, sSeq, Ss.seq, sIf, sE, sSet, sRet, sRetN, sExpr, sAsg, sAug, sPar, sNil, stv, gN, gSubD, gTupD, gsNil, gsCons, tBin, tIs, tTru, truD, tAndB, tOrB, tNotB, eBin, eUn, eChain, eIf, eVar, lk, eCall, eCallF, one1, two2, lenD, absD, intV, aCons, aNil, eTup, eLst, eMut, eFrz, frzD, eMeth, mPop, mExtend, mJoin, liveL, Rs.bind, isB, oCmpI, oSub, oDiv, oMod, oNeg, dicOf, keyD, lstH, oIs, oIsNot, isNonD, eSl, oSl, oSome, oNone, DL.intD, eIsi, tyD, isiAny, Ty.is, iAny, DL.iRng1, List.getElem?_cons_zero, List.getElem?_cons_succ, List.set_cons_zero, List.set_cons_succ, List.length_cons, List.length_nil, Option.isSome, decide_true, decide_false, Bool.not_true, Bool.not_false, oInt, gl_i, gl_s, gl_n, gl_L, gl_F, gl_S, gl_B, ix, eq_str, in_str, eq_one, d, dS, e1, ap, il]
    · have dS := decide_eq_false hS
      rw [if_neg hS]
      by_cases hL : c ∈ LL
      · have dL := decide_eq_true hL
        rw [if_pos hL]
        simp only [lb_lexemes_or_none_0, sSeq, Ss.seq, sIf, sE, sSet, sRet, sRetN, sExpr, sAsg, sAug, sPar, sNil, stv, gN, gSubD, gTupD, gsNil, gsCons, tBin, tIs, tTru, truD, tAndB, tOrB, tNotB, eBin, eUn, eChain, eIf, eVar, lk, eCall, eCallF, one1, two2, lenD, absD, intV, aCons, aNil, eTup, eLst, eMut, eFrz, frzD, eMeth, mPop, mExtend, mJoin, liveL, Rs.bind, isB, oCmpI, oSub, oDiv, oMod, oNeg, dicOf, keyD, lstH, oIs, oIsNot, isNonD, eSl, oSl, oSome, oNone, DL.intD, eIsi, tyD, isiAny, Ty.is, iAny, DL.iRng1, List.getElem?_cons_zero, List.getElem?_cons_succ, List.set_cons_zero, List.set_cons_succ, List.length_cons, List.length_nil, Option.isSome, decide_true, decide_false, Bool.not_true, Bool.not_false, oInt, gl_i, gl_s, gl_n, gl_L, gl_F, gl_S, gl_B, ix, eq_str, in_str, eq_one, d, dS, dL, e1, ap, il, ad1, se1, c1, sm]
      · have dL := decide_eq_false hL
        rw [if_neg hL]
        by_cases hF : c ∈ FF
        · have dF := decide_eq_true hF
          rw [if_pos hF]
          simp only [lb_lexemes_or_none_0, sSeq, Ss.seq, sIf, sE, sSet, sRet, sRetN, sExpr, sAsg, sAug, sPar, sNil, stv, gN, gSubD, gTupD, gsNil, gsCons, tBin, tIs, tTru, truD, tAndB, tOrB, tNotB, eBin, eUn, eChain, eIf, eVar, lk, eCall, eCallF, one1, two2, lenD, absD, intV, aCons, aNil, eTup, eLst, eMut, eFrz, frzD, eMeth, mPop, mExtend, mJoin, liveL, Rs.bind, isB, oCmpI, oSub, oDiv, oMod, oNeg, dicOf, keyD, lstH, oIs, oIsNot, isNonD, eSl, oSl, oSome, oNone, DL.intD, eIsi, tyD, isiAny, Ty.is, iAny, DL.iRng1, List.getElem?_cons_zero, List.getElem?_cons_succ, List.set_cons_zero, List.set_cons_succ, List.length_cons, List.length_nil, Option.isSome, decide_true, decide_false, Bool.not_true, Bool.not_false, oInt, gl_i, gl_s, gl_n, gl_L, gl_F, gl_S, gl_B, ix, eq_str, in_str, eq_one, d, dS, dL, dF, e1, ap, il, ad2, se2, c2, sm]
        · have dF := decide_eq_false hF
          rw [if_neg hF]
          simp only [lb_lexemes_or_none_0, sSeq, Ss.seq, sIf, sE, sSet, sRet, sRetN, sExpr, sAsg, sAug, sPar, sNil, stv, gN, gSubD, gTupD, gsNil, gsCons, tBin, tIs, tTru, truD, tAndB, tOrB, tNotB, eBin, eUn, eChain, eIf, eVar, lk, eCall, eCallF, one1, two2, lenD, absD, intV, aCons, aNil, eTup, eLst, eMut, eFrz, frzD, eMeth, mPop, mExtend, mJoin, liveL, Rs.bind, isB, oCmpI, oSub, oDiv, oMod, oNeg, dicOf, keyD, lstH, oIs, oIsNot, isNonD, eSl, oSl, oSome, oNone, DL.intD, eIsi, tyD, isiAny, Ty.is, iAny, DL.iRng1, List.getElem?_cons_zero, List.getElem?_cons_succ, List.set_cons_zero, List.set_cons_succ, List.length_cons, List.length_nil, Option.isSome, decide_true, decide_false, Bool.not_true, Bool.not_false, oInt, gl_i, gl_s, gl_n, gl_L, gl_F, gl_S, gl_B, ix, eq_str, in_str, eq_one, d, dS, dL, dF, e1, ap, il]
theorem lex_loop {s : List Nat} {h0 : Mh} (hl : s.length ≤ 10000) : ∀ (fu i : Nat) (told : List (List Nat)) (x y : D), i ≤ s.length → s.length - i < fu → told.length + (s.length - i) ≤ 100000 →
    match run 0 told (s.drop i) with
    | some ws => ∃ (z x' y' : D), whl lc_lexemes_or_none_1 lb_lexemes_or_none_0 fu [.str s, .ref h0.length, .int (i : Int), x, y] (h0 ++ [.lst (wv told)]) = .nx [.str s, .ref h0.length, z, x', y'] (h0 ++ [.lst (wv ws)])
    | none => ∃ ws, whl lc_lexemes_or_none_1 lb_lexemes_or_none_0 fu [.str s, .ref h0.length, .int (i : Int), x, y] (h0 ++ [.lst (wv told)]) = .rt .non (h0 ++ [.lst (wv ws)])
  | 0, i, told, x, y, _, hf, _ => by omega
  | fu + 1, i, told, x, y, hi, hf, ht => by
    have sm : small s.length = true := decide_eq_true (by omega)
    by_cases hlt : i < s.length
    · have cn : lc_lexemes_or_none_1 [.str s, .ref h0.length, .int (i : Int), x, y] (h0 ++ [.lst (wv told)]) = .ok true (h0 ++ [.lst (wv told)]) := by
        have : decide ((i : Int) < (s.length : Int)) = true := decide_eq_true (by omega)
        simp only [lc_lexemes_or_none_1, sSeq, Ss.seq, sIf, sE, sSet, sRet, sRetN, sExpr, sAsg, sAug, sPar, sNil, stv, gN, gSubD, gTupD, gsNil, gsCons, tBin, tIs, tTru, truD, tAndB, tOrB, tNotB, eBin, eUn, eChain, eIf, eVar, lk, eCall, eCallF, one1, two2, lenD, absD, intV, aCons, aNil, eTup, eLst, eMut, eFrz, frzD, eMeth, mPop, mExtend, mJoin, liveL, Rs.bind, isB, oCmpI, oSub, oDiv, oMod, oNeg, dicOf, keyD, lstH, oIs, oIsNot, isNonD, eSl, oSl, oSome, oNone, DL.intD, eIsi, tyD, isiAny, Ty.is, iAny, DL.iRng1, List.getElem?_cons_zero, List.getElem?_cons_succ, List.set_cons_zero, List.set_cons_succ, List.length_cons, List.length_nil, Option.isSome, decide_true, decide_false, Bool.not_true, Bool.not_false, sm, this]
      have st := lex_step (h0 := h0) (told := told) (x := x) (y := y) hl hlt (by omega)
      unfold whl
      simp only [cn, sE, st]
      have ed : run 0 told (s.drop i) = run 0 told (s[i] :: s.drop (i + 1)) := congrArg (run 0 told) (List.drop_eq_getElem_cons hlt)
      rw [ed]
      have n0 : ∀ c : Nat, ¬ ((0 = 1 ∧ (c ∈ LL ∨ c ∈ FF)) ∨ (0 = 2 ∧ (c ∈ FF ∨ c = 46))) := fun c z => z.elim (fun a => absurd a.1 (by decide)) fun a => absurd a.1 (by decide)
      by_cases h32 : s[i] = 32
      · have e : run 0 told (s[i] :: s.drop (i + 1)) = run 0 told (s.drop (i + 1)) := by
          conv => lhs; unfold run
          rw [if_neg (n0 _), h32, if_neg bl_no.1, if_neg bl_no.2.1, if_neg bl_no.2.2, if_pos rfl]
        rw [e]
        simp only [if_pos h32]
        exact lex_loop hl fu (i + 1) told _ _ (by omega) (by omega) (by omega)
      · simp only [if_neg h32]
        by_cases hS : s[i] ∈ S6
        · have e : run 0 told (s[i] :: s.drop (i + 1)) = run 0 (told ++ [[s[i]]]) (s.drop (i + 1)) := by
            conv => lhs; unfold run
            rw [if_neg (n0 _), if_neg (s6_no _ hS).1, if_neg (s6_no _ hS).2, if_pos hS]
          rw [e]
          simp only [if_pos hS]
          exact lex_loop hl fu (i + 1) (told ++ [[s[i]]]) _ _ (by omega) (by omega) (by rw [List.length_append, List.length_singleton]; omega)
        · simp only [if_neg hS]
          by_cases hL : s[i] ∈ LL
          · have tc : tw (LL ++ FF) (s.drop i) = s[i] :: tw (LL ++ FF) (s.drop (i + 1)) := by
              rw [List.drop_eq_getElem_cons hlt]
              exact List.takeWhile_cons_of_pos (by exact decide_eq_true (List.mem_append_left _ hL))
            have e : run 0 told (s[i] :: s.drop (i + 1)) = run 0 (told ++ [tw (LL ++ FF) (s.drop i)]) (s.drop (i + (tw (LL ++ FF) (s.drop i)).length)) := by
              conv => lhs; unfold run
              rw [if_neg (n0 _), if_pos hL, run_L, tc, List.drop_drop]
              congr 2
              rw [List.length_cons]
              omega
            rw [e]
            simp only [if_pos hL]
            have l1 := tw_le (LL ++ FF) (s.drop i)
            rw [List.length_drop] at l1
            have l2 : 1 ≤ (tw (LL ++ FF) (s.drop i)).length := by rw [tc, List.length_cons]; omega
            exact lex_loop hl fu (i + (tw (LL ++ FF) (s.drop i)).length) (told ++ [tw (LL ++ FF) (s.drop i)]) _ _ (by omega) (by omega) (by rw [List.length_append, List.length_singleton]; omega)
          · simp only [if_neg hL]
            by_cases hF : s[i] ∈ FF
            · have tc : tw (FF ++ [46]) (s.drop i) = s[i] :: tw (FF ++ [46]) (s.drop (i + 1)) := by
                rw [List.drop_eq_getElem_cons hlt]
                exact List.takeWhile_cons_of_pos (by exact decide_eq_true (List.mem_append_left _ hF))
              have e : run 0 told (s[i] :: s.drop (i + 1)) = run 0 (told ++ [tw (FF ++ [46]) (s.drop i)]) (s.drop (i + (tw (FF ++ [46]) (s.drop i)).length)) := by
                conv => lhs; unfold run
                rw [if_neg (n0 _), if_neg hL, if_pos hF, run_F, tc, List.drop_drop]
                congr 2
                rw [List.length_cons]
                omega
              rw [e]
              simp only [if_pos hF]
              have l1 := tw_le (FF ++ [46]) (s.drop i)
              rw [List.length_drop] at l1
              have l2 : 1 ≤ (tw (FF ++ [46]) (s.drop i)).length := by rw [tc, List.length_cons]; omega
              exact lex_loop hl fu (i + (tw (FF ++ [46]) (s.drop i)).length) (told ++ [tw (FF ++ [46]) (s.drop i)]) _ _ (by omega) (by omega) (by rw [List.length_append, List.length_singleton]; omega)
            · simp only [if_neg hF]
              have e : run 0 told (s[i] :: s.drop (i + 1)) = none := by
                unfold run
                rw [if_neg (n0 _), if_neg hL, if_neg hF, if_neg hS, if_neg h32]
              rw [e]
              exact ⟨told, rfl⟩
    · have cn : lc_lexemes_or_none_1 [.str s, .ref h0.length, .int (i : Int), x, y] (h0 ++ [.lst (wv told)]) = .ok false (h0 ++ [.lst (wv told)]) := by
        have : decide ((i : Int) < (s.length : Int)) = false := decide_eq_false (by omega)
        simp only [lc_lexemes_or_none_1, sSeq, Ss.seq, sIf, sE, sSet, sRet, sRetN, sExpr, sAsg, sAug, sPar, sNil, stv, gN, gSubD, gTupD, gsNil, gsCons, tBin, tIs, tTru, truD, tAndB, tOrB, tNotB, eBin, eUn, eChain, eIf, eVar, lk, eCall, eCallF, one1, two2, lenD, absD, intV, aCons, aNil, eTup, eLst, eMut, eFrz, frzD, eMeth, mPop, mExtend, mJoin, liveL, Rs.bind, isB, oCmpI, oSub, oDiv, oMod, oNeg, dicOf, keyD, lstH, oIs, oIsNot, isNonD, eSl, oSl, oSome, oNone, DL.intD, eIsi, tyD, isiAny, Ty.is, iAny, DL.iRng1, List.getElem?_cons_zero, List.getElem?_cons_succ, List.set_cons_zero, List.set_cons_succ, List.length_cons, List.length_nil, Option.isSome, decide_true, decide_false, Bool.not_true, Bool.not_false, sm, this]
      have e2 : s.drop i = [] := List.drop_eq_nil_of_le (by omega)
      rw [e2]
      unfold whl
      simp only [cn, sE]
      exact ⟨_, _, _, rfl⟩
theorem none_ok {s : List Nat} {h : Mh} (hl : s.length ≤ 10000) (hb : HB h) : F_lexemes_or_none [.str s] h = .ok (dueD s) h := by
  have L := lex_loop (h0 := h) hl (s.length + 1) 0 [] .u .u (Nat.zero_le _) (by omega) (by simp; omega)
  rw [List.drop_zero] at L
  have sm : small 0 = true := rfl
  cases e : run 0 [] s with
  | none =>
    rw [e] at L
    obtain ⟨ws, L⟩ := L
    have ed : dueD s = .non := by unfold dueD; rw [e]
    rw [ed]
    refine mkF_drop (ρ := [.str s, .u, .u, .u, .u]) (o := .lst (wv ws)) rfl hb rfl ?_
    have L' : whl lc_lexemes_or_none_1 lb_lexemes_or_none_0 (s.length + 1) [.str s, .ref h.length, .int 0, .u, .u] (h ++ [.lst []]) = .rt .non (h ++ [.lst (wv ws)]) := L
    simp only [m_lexemes_or_none, sSeq, Ss.seq, sIf, sE, sSet, sRet, sRetN, sExpr, sAsg, sAug, sPar, sNil, stv, gN, gSubD, gTupD, gsNil, gsCons, tBin, tIs, tTru, truD, tAndB, tOrB, tNotB, eBin, eUn, eChain, eIf, eVar, lk, eCall, eCallF, one1, two2, lenD, absD, intV, aCons, aNil, eTup, eLst, eMut, eFrz, frzD, eMeth, mPop, mExtend, mJoin, liveL, Rs.bind, isB, oCmpI, oSub, oDiv, oMod, oNeg, dicOf, keyD, lstH, oIs, oIsNot, isNonD, eSl, oSl, oSome, oNone, DL.intD, eIsi, tyD, isiAny, Ty.is, iAny, DL.iRng1, List.getElem?_cons_zero, List.getElem?_cons_succ, List.set_cons_zero, List.set_cons_succ, List.length_cons, List.length_nil, Option.isSome, decide_true, decide_false, Bool.not_true, Bool.not_false, gl_i, sWhile, fu_lexemes_or_none_0, sm, L']
  | some ws =>
    rw [e] at L
    obtain ⟨z, x', y', L⟩ := L
    have ed : dueD s = .tup (wv ws) := by unfold dueD; rw [e]
    rw [ed]
    refine mkF_drop (ρ := [.str s, .u, .u, .u, .u]) (o := .lst (wv ws)) rfl hb (bnd_wv _ ws) ?_
    have L' : whl lc_lexemes_or_none_1 lb_lexemes_or_none_0 (s.length + 1) [.str s, .ref h.length, .int 0, .u, .u] (h ++ [.lst []]) = .nx [.str s, .ref h.length, z, x', y'] (h ++ [.lst (wv ws)]) := L
    have tl := tup_last (h0 := h) (xs := wv ws)
    simp only [m_lexemes_or_none, sSeq, Ss.seq, sIf, sE, sSet, sRet, sRetN, sExpr, sAsg, sAug, sPar, sNil, stv, gN, gSubD, gTupD, gsNil, gsCons, tBin, tIs, tTru, truD, tAndB, tOrB, tNotB, eBin, eUn, eChain, eIf, eVar, lk, eCall, eCallF, one1, two2, lenD, absD, intV, aCons, aNil, eTup, eLst, eMut, eFrz, frzD, eMeth, mPop, mExtend, mJoin, liveL, Rs.bind, isB, oCmpI, oSub, oDiv, oMod, oNeg, dicOf, keyD, lstH, oIs, oIsNot, isNonD, eSl, oSl, oSome, oNone, DL.intD, eIsi, tyD, isiAny, Ty.is, iAny, DL.iRng1, List.getElem?_cons_zero, List.getElem?_cons_succ, List.set_cons_zero, List.set_cons_succ, List.length_cons, List.length_nil, Option.isSome, decide_true, decide_false, Bool.not_true, Bool.not_false, gl_i, sWhile, fu_lexemes_or_none_0, sm, L', tl]

abbrev SGN : List Nat := [115,105,103,110]
theorem lex_of_ok {s : List Nat} {h : Mh} (hl : s.length ≤ 10000) (hb : HB h) : F_lexemes_of [.str s] h = match run 0 [] s with
    | some ws => .ok (.tup (wv ws)) h
    | none => .ex "BadText" [("line", .int 1), ("word", .str SGN)] h := by
  have e0 := none_ok hl hb
  unfold dueD at e0
  cases e : run 0 [] s with
  | none =>
    rw [e] at e0
    have key : m_lexemes_of [.str s, .u] h = .xc "BadText" [("line", .int 1), ("word", .str SGN)] [.str s, .non] h := by
      simp only [m_lexemes_of, sSeq, Ss.seq, sIf, sE, sSet, sRet, sRetN, sExpr, sAsg, sAug, sPar, sNil, stv, gN, gSubD, gTupD, gsNil, gsCons, tBin, tIs, tTru, truD, tAndB, tOrB, tNotB, eBin, eUn, eChain, eIf, eVar, lk, eCall, eCallF, one1, two2, lenD, absD, intV, aCons, aNil, eTup, eLst, eMut, eFrz, frzD, eMeth, mPop, mExtend, mJoin, liveL, Rs.bind, isB, oCmpI, oSub, oDiv, oMod, oNeg, dicOf, keyD, lstH, oIs, oIsNot, isNonD, eSl, oSl, oSome, oNone, DL.intD, eIsi, tyD, isiAny, Ty.is, iAny, DL.iRng1, List.getElem?_cons_zero, List.getElem?_cons_succ, List.set_cons_zero, List.set_cons_succ, List.length_cons, List.length_nil, Option.isSome, decide_true, decide_false, Bool.not_true, Bool.not_false, gl_i, gl_s, e0, sRaise, List.zip_cons_cons, List.zip_nil_right]
    show gcR h.length (endF (m_lexemes_of [.str s, .u] h)) = _
    rw [key]
    rfl
  | some ws =>
    rw [e] at e0
    refine mkF_rt (ρ := [.str s, .u]) rfl ?_ rfl
    simp only [m_lexemes_of, sSeq, Ss.seq, sIf, sE, sSet, sRet, sRetN, sExpr, sAsg, sAug, sPar, sNil, stv, gN, gSubD, gTupD, gsNil, gsCons, tBin, tIs, tTru, truD, tAndB, tOrB, tNotB, eBin, eUn, eChain, eIf, eVar, lk, eCall, eCallF, one1, two2, lenD, absD, intV, aCons, aNil, eTup, eLst, eMut, eFrz, frzD, eMeth, mPop, mExtend, mJoin, liveL, Rs.bind, isB, oCmpI, oSub, oDiv, oMod, oNeg, dicOf, keyD, lstH, oIs, oIsNot, isNonD, eSl, oSl, oSome, oNone, DL.intD, eIsi, tyD, isiAny, Ty.is, iAny, DL.iRng1, List.getElem?_cons_zero, List.getElem?_cons_succ, List.set_cons_zero, List.set_cons_succ, List.length_cons, List.length_nil, Option.isSome, decide_true, decide_false, Bool.not_true, Bool.not_false, gl_i, gl_s, e0]
/-- what is heard -/
def heardD (s : List Nat) : D := match run 0 [] s with
  | some ws => .tup [.str [116,111,108,100], .tup (wv ws)]
  | none => .tup [.str [116,101,120,116], .int 1, .str SGN]
theorem heard_ok {s : List Nat} {h : Mh} (hl : s.length ≤ 10000) (hb : HB h) : F__law_heard [.str s] h = .ok (heardD s) h := by
  have e0 := lex_of_ok hl hb
  have sm2 : small (0 + 1 + 1) = true := rfl
  have sm3 : small (0 + 1 + 1 + 1) = true := rfl
  unfold heardD
  cases e : run 0 [] s with
  | none =>
    rw [e] at e0
    refine mkF_rt (ρ := [.str s, .u]) rfl ?_ rfl
    have x1 : exT sup "BadText" "CreditError" = some true := by decide +kernel
    have x2 : exT sup "BadText" "BadText" = some true := by decide +kernel
    have x3 : exT sup "BadText" "TextError" = some true := by decide +kernel
    have l1 : List.lookup "line" [("line", D.int 1), ("word", D.str SGN)] = some (.int 1) := rfl
    have l2 : List.lookup "word" [("line", D.int 1), ("word", D.str SGN)] = some (.str SGN) := rfl
    simp only [m__law_heard, sTryAs, sSeq, Ss.seq, sIf, sE, sSet, sRet, sRetN, sExpr, sAsg, sAug, sPar, sNil, stv, gN, gSubD, gTupD, gsNil, gsCons, tBin, tIs, tTru, truD, tAndB, tOrB, tNotB, eBin, eUn, eChain, eIf, eVar, lk, eCall, eCallF, one1, two2, lenD, absD, intV, aCons, aNil, eTup, eLst, eMut, eFrz, frzD, eMeth, mPop, mExtend, mJoin, liveL, Rs.bind, isB, oCmpI, oSub, oDiv, oMod, oNeg, dicOf, keyD, lstH, oIs, oIsNot, isNonD, eSl, oSl, oSome, oNone, DL.intD, eIsi, tyD, isiAny, Ty.is, iAny, DL.iRng1, List.getElem?_cons_zero, List.getElem?_cons_succ, List.set_cons_zero, List.set_cons_succ, List.length_cons, List.length_nil, Option.isSome, decide_true, decide_false, Bool.not_true, Bool.not_false, gl_i, gl_s, e0, x1, x2, x3, eXi, eXf, l1, l2, unb, sm2, sm3]
  | some ws =>
    rw [e] at e0
    refine mkF_rt (ρ := [.str s, .u]) rfl ?_ rfl
    simp only [m__law_heard, sTryAs, sSeq, Ss.seq, sIf, sE, sSet, sRet, sRetN, sExpr, sAsg, sAug, sPar, sNil, stv, gN, gSubD, gTupD, gsNil, gsCons, tBin, tIs, tTru, truD, tAndB, tOrB, tNotB, eBin, eUn, eChain, eIf, eVar, lk, eCall, eCallF, one1, two2, lenD, absD, intV, aCons, aNil, eTup, eLst, eMut, eFrz, frzD, eMeth, mPop, mExtend, mJoin, liveL, Rs.bind, isB, oCmpI, oSub, oDiv, oMod, oNeg, dicOf, keyD, lstH, oIs, oIsNot, isNonD, eSl, oSl, oSome, oNone, DL.intD, eIsi, tyD, isiAny, Ty.is, iAny, DL.iRng1, List.getElem?_cons_zero, List.getElem?_cons_succ, List.set_cons_zero, List.set_cons_succ, List.length_cons, List.length_nil, Option.isSome, decide_true, decide_false, Bool.not_true, Bool.not_false, gl_i, gl_s, e0, sm2]
/-! the law's own comparison -/
abbrev pr (d : D) : D := .tup [d, d]
theorem pop_last {h0 : Mh} {xs : List D} {d : D} : mPop (.ref h0.length) [] (h0 ++ [Ob.lst (xs ++ [d])]) = .ok d (h0 ++ [Ob.lst xs]) := by
  unfold mPop liveL
  simp only [at_last, set_last]
  have e : (xs ++ [d])[(xs ++ [d]).length - 1]? = some d := by simp
  rw [e, List.dropLast_concat]
theorem ext_last {h0 : Mh} {xs ys : List D} (hl : xs.length + ys.length ≤ 1000000) : mExtend (.ref h0.length) [.lst ys] (h0 ++ [Ob.lst xs]) = .ok .non (h0 ++ [Ob.lst (xs ++ ys)]) := by
  have sm : small (xs.length + ys.length) = true := decide_eq_true (by omega)
  unfold mExtend liveL
  simp only [at_last, set_last, lstH, lstOf, sm]
theorem at_tup {es : List D} {j : Nat} (hj : j < es.length) (h : Mh) : oIx (.tup es) (.int (j : Int)) h = .ok es[j] h := by
  have ix : atI es (j : Int) = some es[j] := by
    unfold atI ixN
    rw [if_pos (by omega), if_pos (by omega)]
    exact List.getElem?_eq_getElem hj
  show (match atI es (j : Int) with
    | some d => Rs.ok d h
    | none => .no) = _
  rw [ix]
theorem lc_pairs {es : List D} {x y z : D} (hl : es.length ≤ 1000000) : ∀ (m a : Nat) (h : Mh) (acc : List D), a + m = es.length → acc.length = a →
    lcL h.length (gN 5) tYesD (eTup (aCons (eBin oIx (eVar 3) (eVar 5)) (aCons (eBin oIx (eVar 4) (eVar 5)) aNil))) [x, y, z, .tup es, .tup es, .u] ((List.range' a m).map fun (k : Nat) => D.int (0 + (k : Int))) (h ++ [Ob.lst acc]) = .ok (.ref h.length) (h ++ [Ob.lst (acc ++ (es.drop a).map pr)])
  | 0, a, h, acc, ha, hc => by
    have : es.drop a = [] := List.drop_eq_nil_of_le (by omega)
    rw [this]
    simp [lcL]
  | m + 1, a, h, acc, ha, hc => by
    have hlt : a < es.length := by omega
    rw [List.range'_succ, List.map_cons]
    unfold lcL
    have e0 : (0 : Int) + (a : Int) = (a : Int) := by omega
    have i1 := at_tup hlt
    have sm2 : small (0 + 1 + 1) = true := rfl
    have sma : small (acc.length + 1) = true := decide_eq_true (by omega)
    simp only [sSeq, Ss.seq, sIf, sE, sSet, sRet, sRetN, sExpr, sAsg, sAug, sPar, sNil, stv, gN, gSubD, gTupD, gsNil, gsCons, tBin, tIs, tTru, truD, tAndB, tOrB, tNotB, eBin, eUn, eChain, eIf, eVar, lk, eCall, eCallF, one1, two2, lenD, absD, intV, aCons, aNil, eTup, eLst, eMut, eFrz, frzD, eMeth, mPop, mExtend, mJoin, liveL, Rs.bind, isB, oCmpI, oSub, oDiv, oMod, oNeg, dicOf, keyD, lstH, oIs, oIsNot, isNonD, eSl, oSl, oSome, oNone, DL.intD, eIsi, tyD, isiAny, Ty.is, iAny, DL.iRng1, List.getElem?_cons_zero, List.getElem?_cons_succ, List.set_cons_zero, List.set_cons_succ, List.length_cons, List.length_nil, Option.isSome, decide_true, decide_false, Bool.not_true, Bool.not_false, tYesD, e0, i1, sm2, at_last, set_last, sma]
    rw [lc_pairs hl m (a + 1) h (acc ++ [pr es[a]]) (by omega) (by simp; omega), List.drop_eq_getElem_cons hlt, List.append_assoc]
    rfl
mutual
/-- plain data -/
def plD : D → Bool
  | .str _ => true
  | .int _ => true
  | .non => true
  | .tup ds => plDs ds
  | _ => false
def plDs : List D → Bool
  | [] => true
  | d :: ds => plD d && plDs ds
end
mutual
theorem pl_bnd (n : Nat) : ∀ d : D, plD d = true → bndD n d = true
  | .str _, _ => rfl
  | .int _, _ => rfl
  | .non, _ => rfl
  | .tup ds, h => pl_bnds n ds h
  | .u, h => by cases h
  | .bl _, h => by cases h
  | .lst _, h => by cases h
  | .dic _, h => by cases h
  | .ref _, h => by cases h
  | .scr _, h => by cases h
theorem pl_bnds (n : Nat) : ∀ ds : List D, plDs ds = true → bndDs n ds = true
  | [], _ => rfl
  | d :: ds, h => by
    obtain ⟨h1, h2⟩ := Bool.and_eq_true_iff.mp (show (plD d && plDs ds) = true from h)
    show (bndD n d && bndDs n ds) = true
    rw [pl_bnd n d h1, pl_bnds n ds h2]
    rfl
end
theorem bnd_pr (n : Nat) : ∀ ds : List D, plDs ds = true → bndDs n (ds.map pr) = true
  | [], _ => rfl
  | d :: ds, h => by
    obtain ⟨h1, h2⟩ := Bool.and_eq_true_iff.mp (show (plD d && plDs ds) = true from h)
    show ((bndD n d && (bndD n d && true)) && bndDs n (ds.map pr)) = true
    rw [pl_bnd n d h1, bnd_pr n ds h2]
    rfl
theorem pl_len : ∀ ds : List D, ds.length ≤ szDs ds
  | [] => Nat.le_refl _
  | d :: ds => by
    have := pl_len ds
    have h1 : 1 ≤ szD d := by cases d <;> (unfold szD; omega)
    rw [List.length_cons]
    unfold szDs
    omega
theorem szDs_app : ∀ a b : List D, szDs (a ++ b) = szDs a + szDs b
  | [], b => by simp [szDs]
  | d :: a, b => by
    show szD d + szDs (a ++ b) = szD d + szDs a + szDs b
    rw [szDs_app a b]
    omega
theorem plDs_app : ∀ a b : List D, plDs (a ++ b) = (plDs a && plDs b)
  | [], b => by simp [plDs]
  | d :: a, b => by
    show (plD d && plDs (a ++ b)) = (plD d && plDs a && plDs b)
    rw [plDs_app a b, Bool.and_assoc]
/-- what is left behind a turn -/
def kids : D → List D
  | .tup es => es
  | _ => []
theorem va_4 {es : List D} {x y z w : D} (h : Mh) : aCons (eVar 4) aNil [x, y, z, .tup es, .tup es, w] h = .ok [.tup es] h := rfl
theorem ln_t {es : List D} (h : Mh) : one1 lenD [.tup es] h = .ok (.int (es.length : Int)) h := rfl
theorem va_5 {es : List D} {x y z w : D} (h : Mh) : eCall (one1 lenD) (aCons (eVar 4) aNil) [x, y, z, .tup es, .tup es, w] h = .ok (.int (es.length : Int)) h := by
  unfold eCall
  rw [va_4]
  exact ln_t h
theorem va_6 {e : EE} {ρ : List D} {h h' : Mh} {d : D} (q : e ρ h = .ok d h') : aCons e aNil ρ h = .ok [d] h' := by
  unfold aCons
  rw [q]
  rfl
theorem rng_k {fl : EL} {ρ : List D} {h h' : Mh} {k : Int} (h0 : 0 ≤ k) (h1 : k < 1000000) (e : fl ρ h = .ok [.int k] h') : DL.iRng1 fl ρ h = .ok (rngL 0 k.toNat) h' := by
  have ro := rngOk_small h0 h1
  unfold DL.iRng1
  rw [e]
  show (match rngOk k with
    | true => Rs.ok (rngL 0 k.toNat) h'
    | false => .no) = _
  rw [ro]
theorem rng_pairs {es : List D} {x y z w : D} (hl : es.length ≤ 100000) (h : Mh) :
    DL.iRng1 (aCons (eCall (one1 lenD) (aCons (eVar 4) aNil)) aNil) [x, y, z, .tup es, .tup es, w] h = .ok (rngL 0 es.length) h :=
  rng_k (by omega) (by omega) (va_6 (va_5 h))
theorem rng_range (n : Nat) : rngL 0 n = (List.range' 0 n).map fun (k : Nat) => D.int (0 + (k : Int)) := by
  unfold rngL
  rw [List.range_eq_range']
theorem lcM_ok {own : List Nat} {fi : EL} {g : GG} {tt : EB} {te : EE} {ρ : List D} {h h' : Mh} {ds : List D} {r : Rs D} (e1 : fi ρ h = .ok ds h') (e2 : lcL h'.length g tt te (wpD ρ own) ds (h' ++ [Ob.lst []]) = r) : eLcM own fi g tt te ρ h = r := by
  unfold eLcM
  rw [e1]
  exact e2
theorem lc_ok {own : List Nat} {fi : EL} {g : GG} {tt : EB} {te : EE} {ρ : List D} {h : Mh} {ds : List D} (e1 : eLcM own fi g tt te ρ h = .ok (.ref h.length) (h ++ [Ob.lst ds])) (hb : HB h) (hd : bndDs h.length ds = true) : eLc own fi g tt te ρ h = .ok (.lst ds) h := by
  unfold eLc
  rw [e1]
  have e2 : (Rs.ok (D.ref h.length) (h ++ [Ob.lst ds])).bind frzD = .ok (.lst ds) (h ++ [Ob.dead]) := by
    show frzD (.ref h.length) (h ++ [Ob.lst ds]) = _
    unfold frzD
    simp only [at_last, set_last]
  rw [e2]
  exact gcR_drop hb hd
theorem pairs_ok {es : List D} {x y z w : D} (hl : es.length ≤ 100000) (hp : plDs es = true) {h : Mh} (hb : HB h) :
    eLc [5] (DL.iRng1 (aCons (eCall (one1 lenD) (aCons (eVar 4) aNil)) aNil)) (gN 5) tYesD (eTup (aCons (eBin oIx (eVar 3) (eVar 5)) (aCons (eBin oIx (eVar 4) (eVar 5)) aNil))) [x, y, z, .tup es, .tup es, w] h = .ok (.lst (es.map pr)) h := by
  have L := lc_pairs (es := es) (x := x) (y := y) (z := z) (by omega) es.length 0 h [] (by omega) rfl
  rw [List.nil_append, List.drop_zero] at L
  refine lc_ok (lcM_ok (rng_pairs hl h) ?_) hb (bnd_pr _ es hp)
  rw [rng_range]
  exact L
theorem hb_app {h : Mh} {xs : List D} (hb : ∀ n, h.all (bndO n) = true) (hx : ∀ n, bndDs n xs = true) : HB (h ++ [Ob.lst xs]) := by
  unfold HB
  rw [List.all_append, hb]
  show (true && (bndDs _ xs && true)) = true
  rw [hx]
  rfl
theorem ty_str_a : isiAny .str [.tup, .lst] = false := rfl
theorem ty_str_l : isiAny .str [.lst] = false := rfl
theorem ty_str_s : isiAny .str [.str] = true := rfl
theorem ty_str_b : isiAny .str [.bl] = false := rfl
theorem ty_str_i : isiAny .str [.int] = false := rfl
theorem ty_int_a : isiAny .int [.tup, .lst] = false := rfl
theorem ty_int_l : isiAny .int [.lst] = false := rfl
theorem ty_int_s : isiAny .int [.str] = false := rfl
theorem ty_int_b : isiAny .int [.bl] = false := rfl
theorem ty_int_i : isiAny .int [.int] = true := rfl
theorem ty_non_a : isiAny .non [.tup, .lst] = false := rfl
theorem ty_non_l : isiAny .non [.lst] = false := rfl
theorem ty_non_s : isiAny .non [.str] = false := rfl
theorem ty_non_b : isiAny .non [.bl] = false := rfl
theorem ty_non_i : isiAny .non [.int] = false := rfl
theorem ty_tup_a : isiAny .tup [.tup, .lst] = true := rfl
theorem ty_tup_l : isiAny .tup [.lst] = false := rfl
theorem ty_tup_s : isiAny .tup [.str] = false := rfl
theorem ty_tup_b : isiAny .tup [.bl] = false := rfl
theorem ty_tup_i : isiAny .tup [.int] = false := rfl

theorem bin_v {g : O2} {fa fb : EE} {ρ : List D} {h h1 h2 : Mh} {x y : D} (e1 : fa ρ h = .ok x h1) (e2 : fb ρ h1 = .ok y h2) : eBin g fa fb ρ h = g x y h2 := by
  unfold eBin
  rw [e1]
  show (Rs.bind (fb ρ h1) _) = _
  rw [e2]
  rfl
theorem call_v {g : OL} {fl : EL} {ρ : List D} {h h1 : Mh} {ds : List D} (e1 : fl ρ h = .ok ds h1) : eCall g fl ρ h = g ds h1 := by
  unfold eCall
  rw [e1]
  rfl
theorem seq_nx {f g : SS} {ρ ρ' : List D} {h h' : Mh} (e : f ρ h = .nx ρ' h') : sSeq f g ρ h = g ρ' h' := by
  unfold sSeq
  rw [e]
  rfl
theorem if_t {c : EB} {a b : SS} {ρ : List D} {h h' : Mh} (e : c ρ h = .ok true h') : sIf c a b ρ h = a ρ h' := by
  unfold sIf
  rw [e]
  rfl
theorem if_f {c : EB} {a b : SS} {ρ : List D} {h h' : Mh} {r : Ss} (e : c ρ h = .ok false h') (q : b ρ h' = r) : sIf c a b ρ h = r := by
  unfold sIf
  rw [e]
  exact q
theorem or_f {a b : EB} {ρ : List D} {h h' : Mh} {r : Rs Bool} (e : a ρ h = .ok false h') (q : b ρ h' = r) : tOrB a b ρ h = r := by
  unfold tOrB
  rw [e]
  exact q
theorem not_v {a : EB} {ρ : List D} {h h' : Mh} {k : Bool} (e : a ρ h = .ok k h') : tNotB a ρ h = .ok (!k) h' := by
  unfold tNotB
  rw [e]
  rfl
theorem expr_v {e : EE} {ρ : List D} {h h' : Mh} {d : D} (q : e ρ h = .ok d h') : sExpr e ρ h = .nx ρ h' := by
  unfold sExpr
  rw [q]
  rfl
theorem meth_v {b : Bt} {g : OM} {fo : EE} {fl : EL} {ρ : List D} {h h1 h2 : Mh} {d : D} {ds : List D} (e1 : fo ρ h = .ok d h1) (e2 : b.is d h1 = true) (e3 : fl ρ h1 = .ok ds h2) : eMeth b g fo fl ρ h = g d ds h2 := by
  unfold eMeth
  rw [e1]
  show (match b.is d h1 with
    | true => (fl ρ h1).bind fun ds h2 => g d ds h2
    | false => .no) = _
  rw [e2, e3]
  rfl
theorem nil_v {ρ : List D} {h : Mh} : sNil ρ h = .nx ρ h := rfl
theorem same_tup {h0 : Mh} {x y : D} {ds : List D} {a b c : D} (es : List D) (hp : plDs es = true) (hds : plDs ds = true) (hb : ∀ n, h0.all (bndO n) = true) (les : es.length ≤ 100000) (lds : ds.length ≤ 100000) :
    ∃ c' : D, lb__law_same_0 [x, y, .ref h0.length, a, b, c] (h0 ++ [Ob.lst (ds.map pr ++ [pr (.tup es)])]) = .nx [x, y, .ref h0.length, (.tup es), (.tup es), c'] (h0 ++ [Ob.lst ((ds ++ kids (.tup es)).map pr)]) := by
  have pp := pop_last (h0 := h0) (xs := ds.map pr) (d := pr (.tup es))
  have il := isl_last (h0 := h0) (xs := ds.map pr ++ [pr (.tup es)])
  have il2 := isl_last (h0 := h0) (xs := ds.map pr)
  have d2 : decide (0 + 1 + 1 = 2) = true := rfl
  have q := pairs_ok (es := es) (x := x) (y := y) (z := .ref h0.length) (w := c) (by omega) hp (hb_app hb (fun n => bnd_pr n ds hds))
  have ex := ext_last (h0 := h0) (xs := ds.map pr) (ys := es.map pr) (by simp; omega)
  have b1 : decide (false = false) = true := rfl
  obtain ⟨n, hn⟩ : ∃ n : Int, n = (es.length : Int) := ⟨_, rfl⟩
  have ln : ∀ h, one1 lenD [.tup es] h = .ok (.int n) h := fun h => by rw [hn]; rfl
  have b2 : decide (n = n) = true := decide_eq_true rfl
  refine ⟨c, ?_⟩
  have em : (ds ++ kids (.tup es)).map pr = ds.map pr ++ es.map pr := by unfold kids; rw [List.map_append]
  rw [em]
  have va1 : ∀ (o1 o2 : D) (h : Mh), aCons (eVar 3) aNil [x, y, .ref h0.length, .tup es, o1, o2] h = .ok [.tup es] h := fun _ _ _ => rfl
  have va2 : ∀ (o1 o2 : D) (h : Mh), aCons (eVar 4) aNil [x, y, .ref h0.length, o1, .tup es, o2] h = .ok [.tup es] h := fun _ _ _ => rfl
  have s1 : sAsg (gTupD 2 (gsCons (gN 3) (gsCons (gN 4) gsNil))) (eMeth .list mPop (eVar 2) aNil) [x, y, .ref h0.length, a, b, c] (h0 ++ [Ob.lst (ds.map pr ++ [pr (.tup es)])]) = .nx [x, y, .ref h0.length, .tup es, .tup es, c] (h0 ++ [Ob.lst (ds.map pr)]) := by
    simp only [sAsg, sE, eMeth, eVar, lk, Rs.bind, il, aNil, pp, gTupD, List.length_cons, List.length_nil, d2, gsCons, gsNil, gN, stv, decide_true]
  have s2 : tTru (eIsi [.tup, .lst] (eVar 4)) [x, y, .ref h0.length, .tup es, .tup es, c] (h0 ++ [Ob.lst (ds.map pr)]) = .ok true (h0 ++ [Ob.lst (ds.map pr)]) := rfl
  have s3 : tTru (eIsi [.tup, .lst] (eVar 3)) [x, y, .ref h0.length, .tup es, .tup es, c] (h0 ++ [Ob.lst (ds.map pr)]) = .ok true (h0 ++ [Ob.lst (ds.map pr)]) := rfl
  have s4 : tBin oNe (eIsi [.lst] (eVar 3)) (eIsi [.lst] (eVar 4)) [x, y, .ref h0.length, .tup es, .tup es, c] (h0 ++ [Ob.lst (ds.map pr)]) = .ok false (h0 ++ [Ob.lst (ds.map pr)]) := rfl
  have s5 : tBin oNe (eCall (one1 lenD) (aCons (eVar 3) aNil)) (eCall (one1 lenD) (aCons (eVar 4) aNil)) [x, y, .ref h0.length, .tup es, .tup es, c] (h0 ++ [Ob.lst (ds.map pr)]) = .ok false (h0 ++ [Ob.lst (ds.map pr)]) := by
    have c1 := call_v (g := one1 lenD) (va1 (.tup es) c (h0 ++ [Ob.lst (ds.map pr)]))
    have c2 := call_v (g := one1 lenD) (va2 (.tup es) c (h0 ++ [Ob.lst (ds.map pr)]))
    rw [ln] at c1 c2
    have e1 := bin_v (g := oNe) c1 c2
    unfold tBin
    rw [e1]
    show (Rs.ok (!decide (n = n)) (h0 ++ [Ob.lst (ds.map pr)])) = _
    rw [b2]
    rfl
  unfold lb__law_same_0
  rw [seq_nx s1, if_t s2, seq_nx (if_f (b := sNil) (or_f (not_v s3) (or_f s4 s5)) nil_v)]
  have vq : eVar 2 [x, y, .ref h0.length, .tup es, .tup es, c] (h0 ++ [Ob.lst (ds.map pr)]) = .ok (.ref h0.length) (h0 ++ [Ob.lst (ds.map pr)]) := rfl
  exact expr_v ((meth_v vq il2 (va_6 q)).trans ex)

theorem same_str {h0 : Mh} {x y : D} {ds : List D} {a b c : D} (s : List Nat) (hd : plD (.str s) = true) (hds : plDs ds = true) (hb : ∀ n, h0.all (bndO n) = true) (hl : szDs ds + szD (.str s) ≤ 100000) :
    ∃ c' : D, lb__law_same_0 [x, y, .ref h0.length, a, b, c] (h0 ++ [Ob.lst (ds.map pr ++ [pr (.str s)])]) = .nx [x, y, .ref h0.length, (.str s), (.str s), c'] (h0 ++ [Ob.lst ((ds ++ kids (.str s)).map pr)]) := by
  have pp := pop_last (h0 := h0) (xs := ds.map pr) (d := pr (.str s))
  have il := isl_last (h0 := h0) (xs := ds.map pr ++ [pr (.str s)])
  have il2 := isl_last (h0 := h0) (xs := ds.map pr)
  have lds := pl_len ds
  have d2 : decide (0 + 1 + 1 = 2) = true := rfl
  have em : (ds ++ kids (.str s)).map pr = ds.map pr := by unfold kids; rw [List.append_nil]
  have b1 : decide (s = s) = true := decide_eq_true rfl
  refine ⟨c, ?_⟩
  rw [em]
  simp only [lb__law_same_0, sSeq, Ss.seq, sIf, sE, sSet, sRet, sRetN, sExpr, sAsg, sAug, sPar, sNil, stv, gN, gSubD, gTupD, gsNil, gsCons, tBin, tIs, tTru, truD, tAndB, tOrB, tNotB, eBin, eUn, eChain, eIf, eVar, lk, eCall, eCallF, one1, two2, lenD, absD, intV, aCons, aNil, eTup, eLst, eMut, eFrz, frzD, eMeth, mJoin, liveL, Rs.bind, isB, oCmpI, oSub, oDiv, oMod, oNeg, dicOf, keyD, lstH, oIs, oIsNot, isNonD, eSl, oSl, oSome, oNone, DL.intD, eIsi, tyD, iAny, DL.iRng1, List.getElem?_cons_zero, List.getElem?_cons_succ, List.set_cons_zero, List.set_cons_succ, List.length_cons, List.length_nil, Option.isSome, decide_true, decide_false, Bool.not_true, Bool.not_false, ty_str_a, ty_str_l, ty_str_s, ty_str_b, ty_str_i, ty_int_a, ty_int_l, ty_int_s, ty_int_b, ty_int_i, ty_non_a, ty_non_l, ty_non_s, ty_non_b, ty_non_i, ty_tup_a, ty_tup_l, ty_tup_s, ty_tup_b, ty_tup_i, gl_i, pp, il, il2, d2, oNe, eqD, scalD, b1, Bool.or_true, Bool.or_false, Bool.true_or, Bool.false_or]
theorem same_int {h0 : Mh} {x y : D} {ds : List D} {a b c : D} (i : Int) (hd : plD (.int i) = true) (hds : plDs ds = true) (hb : ∀ n, h0.all (bndO n) = true) (hl : szDs ds + szD (.int i) ≤ 100000) :
    ∃ c' : D, lb__law_same_0 [x, y, .ref h0.length, a, b, c] (h0 ++ [Ob.lst (ds.map pr ++ [pr (.int i)])]) = .nx [x, y, .ref h0.length, (.int i), (.int i), c'] (h0 ++ [Ob.lst ((ds ++ kids (.int i)).map pr)]) := by
  have pp := pop_last (h0 := h0) (xs := ds.map pr) (d := pr (.int i))
  have il := isl_last (h0 := h0) (xs := ds.map pr ++ [pr (.int i)])
  have il2 := isl_last (h0 := h0) (xs := ds.map pr)
  have lds := pl_len ds
  have d2 : decide (0 + 1 + 1 = 2) = true := rfl
  have em : (ds ++ kids (.int i)).map pr = ds.map pr := by unfold kids; rw [List.append_nil]
  have b1 : decide (i = i) = true := decide_eq_true rfl
  refine ⟨c, ?_⟩
  rw [em]
  simp only [lb__law_same_0, sSeq, Ss.seq, sIf, sE, sSet, sRet, sRetN, sExpr, sAsg, sAug, sPar, sNil, stv, gN, gSubD, gTupD, gsNil, gsCons, tBin, tIs, tTru, truD, tAndB, tOrB, tNotB, eBin, eUn, eChain, eIf, eVar, lk, eCall, eCallF, one1, two2, lenD, absD, intV, aCons, aNil, eTup, eLst, eMut, eFrz, frzD, eMeth, mJoin, liveL, Rs.bind, isB, oCmpI, oSub, oDiv, oMod, oNeg, dicOf, keyD, lstH, oIs, oIsNot, isNonD, eSl, oSl, oSome, oNone, DL.intD, eIsi, tyD, iAny, DL.iRng1, List.getElem?_cons_zero, List.getElem?_cons_succ, List.set_cons_zero, List.set_cons_succ, List.length_cons, List.length_nil, Option.isSome, decide_true, decide_false, Bool.not_true, Bool.not_false, ty_str_a, ty_str_l, ty_str_s, ty_str_b, ty_str_i, ty_int_a, ty_int_l, ty_int_s, ty_int_b, ty_int_i, ty_non_a, ty_non_l, ty_non_s, ty_non_b, ty_non_i, ty_tup_a, ty_tup_l, ty_tup_s, ty_tup_b, ty_tup_i, gl_i, pp, il, il2, d2, oNe, eqD, scalD, b1, Bool.or_true, Bool.or_false, Bool.true_or, Bool.false_or]
theorem same_non {h0 : Mh} {x y : D} {ds : List D} {a b c : D}  (hd : plD .non = true) (hds : plDs ds = true) (hb : ∀ n, h0.all (bndO n) = true) (hl : szDs ds + szD .non ≤ 100000) :
    ∃ c' : D, lb__law_same_0 [x, y, .ref h0.length, a, b, c] (h0 ++ [Ob.lst (ds.map pr ++ [pr .non])]) = .nx [x, y, .ref h0.length, .non, .non, c'] (h0 ++ [Ob.lst ((ds ++ kids .non).map pr)]) := by
  have pp := pop_last (h0 := h0) (xs := ds.map pr) (d := pr .non)
  have il := isl_last (h0 := h0) (xs := ds.map pr ++ [pr .non])
  have il2 := isl_last (h0 := h0) (xs := ds.map pr)
  have lds := pl_len ds
  have d2 : decide (0 + 1 + 1 = 2) = true := rfl
  have em : (ds ++ kids .non).map pr = ds.map pr := by unfold kids; rw [List.append_nil]
  refine ⟨c, ?_⟩
  rw [em]
  simp only [lb__law_same_0, sSeq, Ss.seq, sIf, sE, sSet, sRet, sRetN, sExpr, sAsg, sAug, sPar, sNil, stv, gN, gSubD, gTupD, gsNil, gsCons, tBin, tIs, tTru, truD, tAndB, tOrB, tNotB, eBin, eUn, eChain, eIf, eVar, lk, eCall, eCallF, one1, two2, lenD, absD, intV, aCons, aNil, eTup, eLst, eMut, eFrz, frzD, eMeth, mJoin, liveL, Rs.bind, isB, oCmpI, oSub, oDiv, oMod, oNeg, dicOf, keyD, lstH, oIs, oIsNot, isNonD, eSl, oSl, oSome, oNone, DL.intD, eIsi, tyD, iAny, DL.iRng1, List.getElem?_cons_zero, List.getElem?_cons_succ, List.set_cons_zero, List.set_cons_succ, List.length_cons, List.length_nil, Option.isSome, decide_true, decide_false, Bool.not_true, Bool.not_false, ty_str_a, ty_str_l, ty_str_s, ty_str_b, ty_str_i, ty_int_a, ty_int_l, ty_int_s, ty_int_b, ty_int_i, ty_non_a, ty_non_l, ty_non_s, ty_non_b, ty_non_i, ty_tup_a, ty_tup_l, ty_tup_s, ty_tup_b, ty_tup_i, gl_i, pp, il, il2, d2, oNe, eqD, scalD, Bool.or_true, Bool.or_false, Bool.true_or, Bool.false_or]
theorem same_step {h0 : Mh} {x y : D} {ds : List D} {d a b c : D} (hd : plD d = true) (hds : plDs ds = true) (hb : ∀ n, h0.all (bndO n) = true) (hl : szDs ds + szD d ≤ 100000) :
    ∃ c' : D, lb__law_same_0 [x, y, .ref h0.length, a, b, c] (h0 ++ [Ob.lst (ds.map pr ++ [pr d])]) = .nx [x, y, .ref h0.length, d, d, c'] (h0 ++ [Ob.lst ((ds ++ kids d).map pr)]) := by
  cases d with
  | tup es =>
    have hz : szD (.tup es) = szDs es + 1 := rfl
    have l1 := pl_len es
    have l2 := pl_len ds
    rw [hz] at hl
    exact same_tup es hd hds hb (by omega) (by omega)
  | str s => exact same_str s hd hds hb hl
  | int i => exact same_int i hd hds hb hl
  | non => exact same_non hd hds hb hl
  | _ => cases hd
theorem same_loop {h0 : Mh} {x y : D} (hb : ∀ n, h0.all (bndO n) = true) : ∀ (fu : Nat) (ds : List D) (a b c : D), plDs ds = true → szDs ds < fu → szDs ds ≤ 100000 →
    ∃ a' b' c', whl lc__law_same_1 lb__law_same_0 fu [x, y, .ref h0.length, a, b, c] (h0 ++ [Ob.lst (ds.map pr)]) = .nx [x, y, .ref h0.length, a', b', c'] (h0 ++ [Ob.lst []])
  | 0, ds, a, b, c, _, hf, _ => by omega
  | fu + 1, ds, a, b, c, hp, hf, hl => by
    have ln : eCall (one1 lenD) (aCons (eVar 2) aNil) [x, y, .ref h0.length, a, b, c] (h0 ++ [Ob.lst (ds.map pr)]) = .ok (.int (ds.length : Int)) (h0 ++ [Ob.lst (ds.map pr)]) := by
      simp only [sSeq, Ss.seq, sIf, sE, sSet, sRet, sRetN, sExpr, sAsg, sAug, sPar, sNil, stv, gN, gSubD, gTupD, gsNil, gsCons, tBin, tIs, tTru, truD, tAndB, tOrB, tNotB, eBin, eUn, eChain, eIf, eVar, lk, eCall, eCallF, one1, two2, lenD, absD, intV, aCons, aNil, eTup, eLst, eMut, eFrz, frzD, eMeth, mJoin, liveL, Rs.bind, isB, oCmpI, oSub, oDiv, oMod, oNeg, dicOf, keyD, lstH, oIs, oIsNot, isNonD, eSl, oSl, oSome, oNone, DL.intD, eIsi, tyD, iAny, DL.iRng1, List.getElem?_cons_zero, List.getElem?_cons_succ, List.set_cons_zero, List.set_cons_succ, List.length_cons, List.length_nil, Option.isSome, decide_true, decide_false, Bool.not_true, Bool.not_false, seqL, lstOf, at_last, List.length_map]
    unfold whl
    rcases List.eq_nil_or_concat ds with rfl | ⟨ds', d, rfl⟩
    · have c1 : lc__law_same_1 [x, y, .ref h0.length, a, b, c] (h0 ++ [Ob.lst (([] : List D).map pr)]) = .ok false (h0 ++ [Ob.lst []]) := by
        unfold lc__law_same_1 tBin eBin
        rw [ln]
        rfl
      rw [c1]
      exact ⟨a, b, c, rfl⟩
    · rw [List.concat_eq_append] at *
      have c1 : lc__law_same_1 [x, y, .ref h0.length, a, b, c] (h0 ++ [Ob.lst ((ds' ++ [d]).map pr)]) = .ok true (h0 ++ [Ob.lst ((ds' ++ [d]).map pr)]) := by
        have dd : decide ((0 : Int) < ((ds' ++ [d]).length : Int)) = true := decide_eq_true (by rw [List.length_append, List.length_singleton]; omega)
        unfold lc__law_same_1 tBin eBin
        rw [ln]
        show (Rs.bind (Rs.ok (D.bl (decide ((0 : Int) < ((ds' ++ [d]).length : Int)))) (h0 ++ [Ob.lst ((ds' ++ [d]).map pr)])) isB) = _
        rw [dd]
        rfl
      rw [c1]
      rw [plDs_app] at hp
      obtain ⟨p1, p2⟩ := Bool.and_eq_true_iff.mp hp
      have p3 : plD d = true := (Bool.and_eq_true_iff.mp (show (plD d && true) = true from p2)).1
      rw [szDs_app] at hf hl
      have z1 : szDs [d] = szD d := by show szD d + 0 = szD d; omega
      rw [z1] at hf hl
      obtain ⟨c', st⟩ := same_step (h0 := h0) (x := x) (y := y) (ds := ds') (d := d) (a := a) (b := b) (c := c) p3 p1 hb hl
      have em : (ds' ++ [d]).map pr = ds'.map pr ++ [pr d] := by rw [List.map_append]; rfl
      rw [em]
      show ∃ a' b' c', (match lb__law_same_0 [x, y, .ref h0.length, a, b, c] (h0 ++ [Ob.lst (ds'.map pr ++ [pr d])]) with
        | .nx ρ' h' => whl lc__law_same_1 lb__law_same_0 fu ρ' h'
        | .ct ρ' h' => whl lc__law_same_1 lb__law_same_0 fu ρ' h'
        | .bk ρ' h' => .nx ρ' h'
        | r => r) = _
      rw [st]
      have k1 : szDs (kids d) + 1 ≤ szD d := by
        cases d with
        | tup es => exact Nat.le_refl _
        | lst es => cases p3
        | _ => exact Nat.le_refl _
      have k2 : plDs (kids d) = true := by
        cases d with
        | tup es => exact p3
        | _ => rfl
      exact same_loop hb fu (ds' ++ kids d) d d c' (by rw [plDs_app, p1, k2]; rfl) (by rw [szDs_app]; omega) (by rw [szDs_app]; omega)
theorem same_ok {h : Mh} {d : D} (hb : ∀ n, h.all (bndO n) = true) (hp : plD d = true) (hz : szD d ≤ 100000) (hn : szD d = szD d) : F__law_same [d, d] h = .ok (.bl true) h := by
  have z1 : szDs [d] = szD d := by show szD d + 0 = szD d; omega
  obtain ⟨a', b', c', L⟩ := same_loop (h0 := h) (x := d) (y := d) hb (szD d + 1) [d] .u .u .u (by show (plD d && true) = true; rw [hp]; rfl) (by omega) (by omega)
  have nu : d ≠ .u := fun z => by subst z; cases hp
  have ev0 : ∀ (r : List D) (g : Mh), eVar 0 (d :: r) g = .ok d g := fun r g => by
    show (match d with
      | .u => Rs.no
      | d => Rs.ok d g) = _
    cases d <;> first | exact absurd rfl nu | rfl
  have ev1 : ∀ (e : D) (r : List D) (g : Mh), eVar 1 (e :: d :: r) g = .ok d g := fun e r g => by
    show (match d with
      | .u => Rs.no
      | d => Rs.ok d g) = _
    cases d <;> first | exact absurd rfl nu | rfl
  have sm1 : small (0 + 1) = true := rfl
  have sm2 : small (0 + 1 + 1) = true := rfl
  refine mkF_drop (ρ := [d, d, .u, .u, .u, .u]) (o := .lst []) rfl (hb _) rfl ?_
  have fu : fu__law_same_0 [d, d, .ref h.length, .u, .u, .u] (h ++ [Ob.lst [pr d]]) = szD d + 1 := rfl
  have L' : whl lc__law_same_1 lb__law_same_0 (szD d + 1) [d, d, .ref h.length, .u, .u, .u] (h ++ [Ob.lst [pr d]]) = .nx [d, d, .ref h.length, a', b', c'] (h ++ [Ob.lst []]) := L
  have s1 : sSet 2 (eMut (aCons (eTup (aCons (eVar 0) (aCons (eVar 1) aNil))) aNil)) [d, d, .u, .u, .u, .u] h = .nx [d, d, .ref h.length, .u, .u, .u] (h ++ [Ob.lst [pr d]]) := by
    simp only [sSet, sE, eMut, aCons, eTup, aNil, ev0, ev1, Rs.bind, List.length_cons, List.length_nil, sm1, sm2, stv]
  unfold m__law_same sSeq
  rw [s1]
  show Ss.seq (sWhile fu__law_same_0 lc__law_same_1 lb__law_same_0 [d, d, .ref h.length, .u, .u, .u] (h ++ [Ob.lst [pr d]])) (sRet (eC (.bl true))) = _
  unfold sWhile
  rw [fu, L']
  rfl

theorem sz_wv : ∀ ws : List (List Nat), szDs (wv ws) = ws.length
  | [] => rfl
  | w :: ws => by
    show szD (.str w) + szDs (wv ws) = ws.length + 1
    rw [sz_wv ws]
    show 1 + ws.length = _
    omega
theorem pl_wv : ∀ ws : List (List Nat), plDs (wv ws) = true
  | [] => rfl
  | w :: ws => by
    show (plD (.str w) && plDs (wv ws)) = true
    rw [pl_wv ws]
    rfl
theorem heard_pl (s : List Nat) : plD (heardD s) = true := by
  unfold heardD
  cases run 0 [] s with
  | none => rfl
  | some ws =>
    show (plD (.str [116,111,108,100]) && (plDs (wv ws) && true)) = true
    rw [pl_wv ws]
    rfl
theorem heard_sz {s : List Nat} (hl : s.length ≤ 10000) : szD (heardD s) ≤ 100000 := by
  unfold heardD
  cases e : run 0 [] s with
  | none => show (4 : Nat) ≤ 100000; decide
  | some ws =>
    have l := run_len s 0 [] ws e
    show (1 + ((szDs (wv ws) + 1) + 0)) + 1 ≤ 100000
    rw [sz_wv ws]
    simp at l
    omega
def AllB (h : Mh) : Prop := ∀ n, h.all (bndO n) = true
theorem callF_v {n : Nat} {g : OL} {fl : EL} {ρ : List D} {h h1 : Mh} {ds : List D} (e1 : fl ρ h = .ok ds h1) (e2 : ds.length = n) : eCallF n g fl ρ h = g ds h1 := by
  unfold eCallF
  rw [e1]
  show (match decide (ds.length = n) with
    | true => g ds h1
    | false => .no) = _
  rw [decide_eq_true e2]
theorem acons_v {a : EE} {r : EL} {ρ : List D} {h h1 h2 : Mh} {d : D} {ds : List D} (e1 : a ρ h = .ok d h1) (e2 : r ρ h1 = .ok ds h2) : aCons a r ρ h = .ok (d :: ds) h2 := by
  unfold aCons
  rw [e1]
  show (Rs.bind (r ρ h1) _) = _
  rw [e2]
  rfl
theorem holds_ok {s : List Nat} {h : Mh} (hl : s.length ≤ 10000) (hb : AllB h) : F__law_holds [.str s] h = .ok (.bl true) h := by
  have d0 := due_ok hl (hb _)
  have e0 := heard_ok hl (hb _)
  have sa := same_ok hb (heard_pl s) (heard_sz hl) rfl
  have sm2 : small (0 + 1 + 1) = true := rfl
  have sm3 : small (0 + 1 + 1 + 1) = true := rfl
  refine mkF_rt (ρ := [.str s, .u]) rfl ?_ rfl
  have s1 : sSet 1 (eCallF 1 F__law_due (aCons (eVar 0) aNil)) [.str s, .u] h = .nx [.str s, dueD s] h := by
    have c := callF_v (n := 1) (g := F__law_due) (fl := aCons (eVar 0) aNil) (ρ := [.str s, .u]) (h := h) (h1 := h) (ds := [.str s]) rfl rfl
    unfold sSet
    rw [c, d0]
    rfl
  have s2 : eCallF 1 F__law_heard (aCons (eVar 0) aNil) [.str s, dueD s] h = .ok (heardD s) h := by
    have c := callF_v (n := 1) (g := F__law_heard) (fl := aCons (eVar 0) aNil) (ρ := [.str s, dueD s]) (h := h) (h1 := h) (ds := [.str s]) rfl rfl
    rw [c, e0]
  have s3 : eIf (tIs (eUn oIs (eVar 1))) (eTup (aCons (eC (.str [116,101,120,116])) (aCons (eC (.int 1)) (aCons (eC (.str [115,105,103,110])) aNil)))) (eTup (aCons (eC (.str [116,111,108,100])) (aCons (eVar 1) aNil))) [.str s, dueD s] h = .ok (heardD s) h := by
    unfold dueD heardD
    cases run 0 [] s with
    | none => rfl
    | some ws => rfl
  unfold m__law_holds
  rw [seq_nx s1]
  have c := callF_v (n := 2) (g := F__law_same) (acons_v s2 (va_6 s3)) rfl
  unfold sRet
  rw [c, sa]
  rfl

theorem bnd_ints (n : Nat) : ∀ cs : List Int, bndDs n (cs.map D.int) = true
  | [] => rfl
  | c :: cs => by
    show (bndD n (.int c) && bndDs n (cs.map D.int)) = true
    rw [bnd_ints n cs]
    rfl
theorem pool_all {h t : Mh} (P : PoolOk h t) (ht : AllB t) : AllB h := by
  obtain ⟨p, cs, rfl, _⟩ := P
  intro n
  show (bndDs n ((p :: cs).map D.int) && t.all (bndO n)) = true
  rw [bnd_ints n (p :: cs), ht n]
  rfl
abbrev one1s (cs : List Nat) : List D := cs.map fun c => D.str [c]
theorem bnd_ones (n : Nat) : ∀ cs : List Nat, bndDs n (one1s cs) = true
  | [] => rfl
  | c :: cs => by
    show (bndD n (.str [c]) && bndDs n (one1s cs)) = true
    rw [bnd_ones n cs]
    rfl
abbrev FREE : List Nat := [97,98,48,49,46,43,45,42,47,40,41,32,61]
abbrev eFree : EE := eBin oIx (eC (.str FREE)) (eCallF 2 F__law_draw (aCons (eVar 1) (aCons (eC (.int 13)) aNil)))
theorem lcL_yes {n : Nat} {g : GG} {tt : EB} {te : EE} {ρ ρ2 : List D} {d y : D} {ds acc : List D} {h h2 h4 : Mh} (hg : g d ρ h = some (ρ2, h2)) (ht : tt ρ2 h2 = .ok true h2) (e : te ρ2 h2 = .ok y h4) (ha : h4[n]? = some (.lst acc)) (sm : small (acc.length + 1) = true) :
    lcL n g tt te ρ (d :: ds) h = lcL n g tt te ρ ds (h4.set n (.lst (acc ++ [y]))) := by
  conv => lhs; unfold lcL
  simp only [hg, ht, e, ha, sm]
theorem lc_free {s0 x2 x3 x4 x6 x7 : D} : ∀ (ds : List D) (cs : List Nat) (h : Mh), PoolOk h [.lst (one1s cs)] → cs.length + ds.length ≤ 1000 →
    ∃ (cs' : List Nat) (h' : Mh), lcL 1 (gN 5) tYesD eFree [s0, .ref 0, x2, x3, x4, .u, x6, x7] ds h = .ok (.ref 1) h' ∧ PoolOk h' [.lst (one1s cs')] ∧ cs'.length = cs.length + ds.length
  | [], cs, h, P, hl => ⟨cs, h, rfl, P, rfl⟩
  | d :: ds, cs, h, P, hl => by
    rw [List.length_cons] at hl
    obtain ⟨r, h1, e1, P1, r0, r1⟩ := draw1 P (by decide : (0 : Int) < 13) (by decide)
    obtain ⟨c, _, ic⟩ := ix_str (l := FREE) r0 r1 (by decide)
    obtain ⟨p, ps, rfl, q0, q1, q2⟩ := P1
    have P2 : PoolOk (.lst (.int p :: ps.map D.int) :: [.lst (one1s (cs ++ [c]))]) [.lst (one1s (cs ++ [c]))] := ⟨p, ps, rfl, q0, q1, q2⟩
    obtain ⟨cs', h', e, P', l'⟩ := lc_free (s0 := s0) (x2 := x2) (x3 := x3) (x4 := x4) (x6 := x6) (x7 := x7) ds (cs ++ [c]) _ P2 (by rw [List.length_append, List.length_singleton]; omega)
    refine ⟨cs', h', ?_, P', by rw [l', List.length_append, List.length_singleton, List.length_cons]; omega⟩
    have sm : small ((one1s cs).length + 1) = true := decide_eq_true (by rw [List.length_map]; omega)
    have ev : eFree [s0, .ref 0, x2, x3, x4, d, x6, x7] h = .ok (.str [c]) [.lst (.int p :: ps.map D.int), .lst (one1s cs)] := by
      have c1 := callF_v (n := 2) (g := F__law_draw) (fl := aCons (eVar 1) (aCons (eC (.int 13)) aNil)) (ρ := [s0, .ref 0, x2, x3, x4, d, x6, x7]) (h := h) (h1 := h) (ds := [.ref 0, .int 13]) rfl rfl
      rw [e1] at c1
      have := bin_v (g := oIx) (gl_s FREE [s0, .ref 0, x2, x3, x4, d, x6, x7] h) c1
      rw [ic] at this
      exact this
    rw [← e]
    have st := lcL_yes (n := 1) (g := gN 5) (tt := tYesD) (te := eFree) (ρ := [s0, .ref 0, x2, x3, x4, .u, x6, x7]) (ρ2 := [s0, .ref 0, x2, x3, x4, d, x6, x7]) (d := d) (ds := ds) (h := h) (h2 := h) (acc := one1s cs) rfl rfl ev rfl sm
    rw [st]
    have : one1s (cs ++ [c]) = one1s cs ++ [.str [c]] := by unfold one1s; rw [List.map_append]; rfl
    rw [this]
    rfl
theorem join_len : ∀ cs : List Nat, (joinL [] (cs.map fun c => [c])).length = cs.length
  | [] => rfl
  | [c] => rfl
  | c :: d :: cs => by
    have ih := join_len (d :: cs)
    show ([c] ++ ([] ++ joinL [] ((d :: cs).map fun c => [c]))).length = _
    rw [List.nil_append, List.length_append, ih]
    simp
    omega
theorem strs_ones : ∀ cs : List Nat, strsD (one1s cs) = some (cs.map fun c => [c])
  | [] => rfl
  | c :: cs => by
    show (strsD (one1s cs)).map ([c] :: ·) = _
    rw [strs_ones cs]
    rfl
theorem sum_ones : ∀ cs : List Nat, ((cs.map fun c => [c]).map List.length).sum = cs.length
  | [] => rfl
  | c :: cs => by
    have := sum_ones cs
    simp at this ⊢
    omega
theorem join_ok (cs : List Nat) (hl : cs.length ≤ 1000) (h : Mh) : mJoin (.str []) [.lst (one1s cs)] h = .ok (.str (joinL [] (cs.map fun c => [c]))) h := by
  have jo : joinOk ([] : List Nat).length (cs.map fun c => [c]) = true := by
    unfold joinOk
    rw [sum_ones]
    exact decide_eq_true (by simp; omega)
  show (match strsD (one1s cs) with
    | some ss => (match joinOk ([] : List Nat).length ss with
      | true => Rs.ok (D.str (joinL [] ss)) h
      | false => .no)
    | none => .no) = _
  rw [strs_ones]
  show (match joinOk ([] : List Nat).length (cs.map fun c => [c]) with
      | true => Rs.ok (D.str (joinL [] (cs.map fun c => [c]))) h
      | false => .no) = _
  rw [jo]
theorem nilB : AllB [] := fun _ => rfl
/-- a free row of signs -/
theorem free_ok {s0 x2 x3 x4 x5 x6 x7 : D} {h : Mh} (P : PoolOk h []) : ∃ (s : List Nat) (h' : Mh),
    eMeth .str mJoin (eC (.str [])) (aCons (eLc [5] (DL.iRng1 (aCons (eCallF 2 F__law_draw (aCons (eVar 1) (aCons (eC (.int 14)) aNil))) aNil)) (gN 5) tYesD eFree) aNil) [s0, .ref 0, x2, x3, x4, x5, x6, x7] h = .ok (.str s) h' ∧ PoolOk h' [] ∧ s.length ≤ 20 := by
  obtain ⟨k, h1, e1, P1, k0, k1⟩ := draw1 P (by decide : (0 : Int) < 14) (by decide)
  obtain ⟨p, ps, rfl, q0, q1, q2⟩ := P1
  have P2 : PoolOk (.lst (.int p :: ps.map D.int) :: [.lst (one1s [])]) [.lst (one1s [])] := ⟨p, ps, rfl, q0, q1, q2⟩
  obtain ⟨cs, h', e, P', l'⟩ := lc_free (s0 := s0) (x2 := x2) (x3 := x3) (x4 := x4) (x6 := x6) (x7 := x7) (rngL 0 k.toNat) [] _ P2 (by rw [rngL_len]; simp; omega)
  rw [rngL_len] at l'
  obtain ⟨p', ps', rfl, q0', q1', q2'⟩ := P'
  have P3 : PoolOk [.lst (.int p' :: ps'.map D.int)] [] := ⟨p', ps', rfl, q0', q1', q2'⟩
  have lcs : cs.length ≤ 14 := by simp at l'; omega
  refine ⟨joinL [] (cs.map fun c => [c]), [.lst (.int p' :: ps'.map D.int)], ?_, P3, by rw [join_len]; omega⟩
  have cl := callF_v (n := 2) (g := F__law_draw) (fl := aCons (eVar 1) (aCons (eC (.int 14)) aNil)) (ρ := [s0, .ref 0, x2, x3, x4, x5, x6, x7]) (h := h) (h1 := h) (ds := [.ref 0, .int 14]) rfl rfl
  rw [e1] at cl
  have rg := rng_k k0 (by omega : k < 1000000) (va_6 cl)
  have lm := lcM_ok (own := [5]) (g := gN 5) (tt := tYesD) (te := eFree) rg e
  have lc : eLc [5] (DL.iRng1 (aCons (eCallF 2 F__law_draw (aCons (eVar 1) (aCons (eC (.int 14)) aNil))) aNil)) (gN 5) tYesD eFree [s0, .ref 0, x2, x3, x4, x5, x6, x7] h = .ok (.lst (one1s cs)) [.lst (.int p' :: ps'.map D.int)] := by
    unfold eLc
    rw [lm]
    have hl : h.length = 1 := by obtain ⟨_, _, rfl, _⟩ := P; rfl
    rw [hl]
    show gcR 1 (.ok (.lst (one1s cs)) ([.lst (.int p' :: ps'.map D.int)] ++ [.dead])) = _
    exact gcR_drop (h := [.lst (.int p' :: ps'.map D.int)]) (pool_all P3 nilB _) (bnd_ones _ cs)
  rw [meth_v (gl_s [] _ h) rfl (va_6 lc)]
  exact join_ok cs (by omega) _

theorem tru_v {e : EE} {ρ : List D} {h h' : Mh} {k : Bool} (q : e ρ h = .ok (.bl k) h') : tTru e ρ h = .ok k h' := by
  unfold tTru
  rw [q]
  rfl
theorem set_v {i : Nat} {e : EE} {ρ : List D} {h h' : Mh} {d : D} (q : e ρ h = .ok d h') : sSet i e ρ h = .nx (stv ρ i d) h' := by
  unfold sSet
  rw [q]
  rfl
theorem body_ok {s0 lap x3 x4 x5 x6 x7 : D} {h : Mh} (P : PoolOk h []) : ∃ (l f : List Nat) (h' : Mh), lb_law_0 [s0, .ref 0, lap, x3, x4, x5, x6, x7] h = .nx [s0, .ref 0, lap, x3, x4, x5, .str l, .str f] h' ∧ PoolOk h' [] := by
  obtain ⟨l, h1, e1, P1, ll⟩ := line_ok P
  obtain ⟨b, h2, e2, P2, lb⟩ := bent_ok (s := l) P1 ll
  obtain ⟨f, h3, e3, P3, lf⟩ := free_ok (s0 := s0) (x2 := lap) (x3 := x3) (x4 := x4) (x5 := x5) (x6 := .str l) (x7 := x7) P2
  have o1 := holds_ok (s := l) (by omega) (pool_all P1 nilB)
  have o2 := holds_ok (s := b) (by omega) (pool_all P2 nilB)
  have o3 := holds_ok (s := f) (by omega) (pool_all P3 nilB)
  have c1 := callF_v (n := 1) (g := F__law_line) (fl := aCons (eVar 1) aNil) (ρ := [s0, .ref 0, lap, x3, x4, x5, x6, x7]) (h := h) (h1 := h) (ds := [.ref 0]) rfl rfl
  rw [e1] at c1
  have c2 := callF_v (n := 1) (g := F__law_holds) (fl := aCons (eVar 6) aNil) (ρ := [s0, .ref 0, lap, x3, x4, x5, .str l, x7]) (h := h1) (h1 := h1) (ds := [.str l]) rfl rfl
  rw [o1] at c2
  have c3 := callF_v (n := 2) (g := F__law_bent) (fl := aCons (eVar 1) (aCons (eVar 6) aNil)) (ρ := [s0, .ref 0, lap, x3, x4, x5, .str l, x7]) (h := h1) (h1 := h1) (ds := [.ref 0, .str l]) rfl rfl
  rw [e2] at c3
  have c4 := callF_v (n := 1) (g := F__law_holds) (va_6 c3) rfl
  rw [o2] at c4
  have c5 := callF_v (n := 1) (g := F__law_holds) (fl := aCons (eVar 7) aNil) (ρ := [s0, .ref 0, lap, x3, x4, x5, .str l, .str f]) (h := h3) (h1 := h3) (ds := [.str f]) rfl rfl
  rw [o3] at c5
  refine ⟨l, f, h3, ?_, P3⟩
  unfold lb_law_0
  rw [seq_nx (set_v c1)]
  show sSeq (sIf _ _ sNil) _ [s0, .ref 0, lap, x3, x4, x5, .str l, x7] h1 = _
  rw [seq_nx (if_f (b := sNil) (or_f (not_v (tru_v c2)) (not_v (tru_v c4))) nil_v), seq_nx (set_v e3)]
  exact if_f (b := sNil) (not_v (tru_v c5)) nil_v
theorem six_ok {s0 x3 x4 x5 : D} : ∀ (ds : List D) (lap x6 x7 : D) (h : Mh), PoolOk h [] → ∃ (lap' x6' x7' : D) (h' : Mh), forL (gN 2) lb_law_0 ds [s0, .ref 0, lap, x3, x4, x5, x6, x7] h = .nx [s0, .ref 0, lap', x3, x4, x5, x6', x7'] h' ∧ PoolOk h' []
  | [], lap, x6, x7, h, P => ⟨lap, x6, x7, h, rfl, P⟩
  | d :: ds, lap, x6, x7, h, P => by
    obtain ⟨l, f, h1, e1, P1⟩ := body_ok (s0 := s0) (lap := d) (x3 := x3) (x4 := x4) (x5 := x5) (x6 := x6) (x7 := x7) P
    obtain ⟨lap', x6', x7', h', e, P'⟩ := six_ok (s0 := s0) (x3 := x3) (x4 := x4) (x5 := x5) ds d (.str l) (.str f) h1 P1
    refine ⟨lap', x6', x7', h', ?_, P'⟩
    rw [← e]
    conv => lhs; unfold forL
    have gn : gN 2 d [s0, .ref 0, lap, x3, x4, x5, x6, x7] h = some ([s0, .ref 0, d, x3, x4, x5, x6, x7], h) := rfl
    simp only [gn, e1]
/-! the written rows -/
def rowsL : List (List Nat) := [[50,42,120,49,32,45,40,121,47,48,46,53,41], [50,120], [120,50,121], [49,46,46,50,46,120], [97,32,98], [45,45,40], [32,32], [], [48,48,49,50,97,98,46], [46,53], [120,46], [49,46,53,46], [120,32,61,32,121], [88], [49,101,53], [51,32,46], [40,49,46,41], [97,98,99,100,101,102,103,104,105,106,107,108], [49,50,51,52,53,54,55,56,57,48,49,50,32,97,49,98,50,99,51,100,52,101,53,102]]
def chk (d : D) : Bool := match d with
  | .non => true
  | .tup ds => match py (.tup ds) with
    | some a => SeqAt.shaped a && PyData.eqv a a
    | none => false
  | _ => false
theorem ne_self {d : D} (c : chk d = true) (h : Mh) : oNe d d h = .ok (.bl false) h := by
  cases d with
  | non => rfl
  | tup ds =>
    have c1 : (match py (.tup ds) with
      | some a => SeqAt.shaped a && PyData.eqv a a
      | none => false) = true := c
    show (match (match py (.tup ds), py (.tup ds) with
      | some a, some b => (match SeqAt.shaped a && SeqAt.shaped b with
        | true => some (PyData.eqv a b)
        | false => none)
      | _, _ => none) with
      | some k => Rs.ok (D.bl (!k)) h
      | none => .no) = _
    cases q : py (.tup ds) with
    | none => rw [q] at c1; cases c1
    | some a =>
      rw [q] at c1
      obtain ⟨c2, c3⟩ := Bool.and_eq_true_iff.mp c1
      simp only [c2, c3, Bool.and_self]
      rfl
  | _ => cases c
theorem rows_chk : (rowsL.all fun r => chk (dueD r) && decide (r.length ≤ 100)) = true := by decide +kernel

abbrev duesL : List D := rowsL.map dueD
theorem ix_refO {h : Mh} {ds : List D} {a : Nat} {d : D} (e : h[1]? = some (Ob.lst ds)) (ha : ds[a]? = some d) : oIx (.ref 1) (.int (a : Int)) h = .ok d h := by
  have hlt : a < ds.length := (List.getElem?_eq_some_iff.mp ha).1
  have ix : atI ds (a : Int) = some d := by
    unfold atI ixN
    rw [if_pos (by omega), if_pos (by omega)]
    exact ha
  have d0 : dicOf (.ref 1) h = none := by unfold dicOf; simp only [e]
  have l0 : lstOf (.ref 1) h = some ds := by unfold lstOf; simp only [e]
  unfold oIx
  rw [d0]
  show (match lstOf (.ref 1) h with
    | some ds => (match atI ds (a : Int) with
      | some d => Rs.ok d h
      | none => .no)
    | none => .no) = _
  rw [l0]
  show (match atI ds (a : Int) with
      | some d => Rs.ok d h
      | none => .no) = _
  rw [ix]
theorem ix_tupO {h : Mh} {ds : List D} {a : Nat} {d : D} (ha : ds[a]? = some d) : oIx (.tup ds) (.int (a : Int)) h = .ok d h := by
  have hlt : a < ds.length := (List.getElem?_eq_some_iff.mp ha).1
  have ix : atI ds (a : Int) = some d := by
    unfold atI ixN
    rw [if_pos (by omega), if_pos (by omega)]
    exact ha
  show (match atI ds (a : Int) with
      | some d => Rs.ok d h
      | none => .no) = _
  rw [ix]
theorem row_ok {r : List Nat} (ha : r ∈ rowsL) : chk (dueD r) = true ∧ r.length ≤ 100 := by
  have := List.all_eq_true.mp rows_chk r ha
  obtain ⟨h1, h2⟩ := Bool.and_eq_true_iff.mp this
  exact ⟨h1, of_decide_eq_true h2⟩
theorem rows_loop {s0 p0 lap x6 x7 : D} {h : Mh} (hb : AllB h) (hd : h[1]? = some (Ob.lst duesL)) : ∀ (m a : Nat) (x5 : D), a + m = rowsL.length → ∃ x5', forL (gN 5) lb_law_1 ((List.range' a m).map fun (k : Nat) => D.int (0 + (k : Int))) [s0, p0, lap, .tup (wv rowsL), .ref 1, x5, x6, x7] h = .nx [s0, p0, lap, .tup (wv rowsL), .ref 1, x5', x6, x7] h
  | 0, a, x5, _ => ⟨x5, rfl⟩
  | m + 1, a, x5, ha => by
    have hlt : a < rowsL.length := by omega
    obtain ⟨r, hr⟩ : ∃ r, rowsL[a]? = some r := ⟨_, List.getElem?_eq_getElem hlt⟩
    obtain ⟨k1, k2⟩ := row_ok (List.mem_of_getElem? hr)
    have hw : (wv rowsL)[a]? = some (.str r) := by rw [List.getElem?_map, hr]; rfl
    have hu : duesL[a]? = some (dueD r) := by rw [List.getElem?_map, hr]; rfl
    obtain ⟨x5', ih⟩ := rows_loop (s0 := s0) (p0 := p0) (lap := lap) (x6 := x6) (x7 := x7) hb hd m (a + 1) (.int (a : Int)) (by omega)
    refine ⟨x5', ?_⟩
    rw [List.range'_succ, List.map_cons]
    have e0 : (0 : Int) + (a : Int) = (a : Int) := by omega
    rw [e0]
    have i1 : eBin oIx (eVar 4) (eVar 5) [s0, p0, lap, .tup (wv rowsL), .ref 1, .int (a : Int), x6, x7] h = .ok (dueD r) h := by
      rw [bin_v (g := oIx) (x := .ref 1) (y := .int (a : Int)) (h1 := h) (h2 := h) rfl rfl, ix_refO hd hu]
    have i2 : eBin oIx (eVar 3) (eVar 5) [s0, p0, lap, .tup (wv rowsL), .ref 1, .int (a : Int), x6, x7] h = .ok (.str r) h := by
      rw [bin_v (g := oIx) (x := .tup (wv rowsL)) (y := .int (a : Int)) (h1 := h) (h2 := h) rfl rfl, ix_tupO hw]
    have c1 := callF_v (n := 1) (g := F__law_due) (va_6 i2) rfl
    rw [due_ok (by omega) (hb _)] at c1
    have c2 := callF_v (n := 1) (g := F__law_holds) (va_6 i2) rfl
    rw [holds_ok (by omega) hb] at c2
    have t1 : tBin oNe (eBin oIx (eVar 4) (eVar 5)) (eCallF 1 F__law_due (aCons (eBin oIx (eVar 3) (eVar 5)) aNil)) [s0, p0, lap, .tup (wv rowsL), .ref 1, .int (a : Int), x6, x7] h = .ok false h := by
      unfold tBin
      rw [bin_v (g := oNe) i1 c1, ne_self k1]
      rfl
    have st : lb_law_1 [s0, p0, lap, .tup (wv rowsL), .ref 1, .int (a : Int), x6, x7] h = .nx [s0, p0, lap, .tup (wv rowsL), .ref 1, .int (a : Int), x6, x7] h := by
      unfold lb_law_1
      exact if_f (b := sNil) (or_f t1 (not_v (tru_v c2))) nil_v
    conv => lhs; unfold forL
    have gn : gN 5 (.int (a : Int)) [s0, p0, lap, .tup (wv rowsL), .ref 1, x5, x6, x7] h = some ([s0, p0, lap, .tup (wv rowsL), .ref 1, .int (a : Int), x6, x7], h) := rfl
    simp only [gn, st]
    exact ih
theorem bnd_dues (n : Nat) : ∀ rs : List (List Nat), bndDs n (rs.map dueD) = true
  | [] => rfl
  | r :: rs => by
    show (bndD n (dueD r) && bndDs n (rs.map dueD)) = true
    rw [bnd_due n r, bnd_dues n rs]
    rfl
theorem hb_all {h : Mh} (hb : AllB h) : AllB (h ++ [Ob.lst duesL]) := fun n => by
  rw [List.all_append, hb n]
  show (true && (bndDs n duesL && true)) = true
  rw [bnd_dues n rowsL]
  rfl
theorem for_v {fi : EL} {g : GG} {b : SS} {ρ : List D} {h h' : Mh} {ds : List D} {r : Ss} (e : fi ρ h = .ok ds h') (q : forL g b ds ρ h' = r) : sFor fi g b ρ h = r := by
  unfold sFor
  rw [e]
  exact q
theorem rows19 : rowsL.length = 19 := rfl
theorem plain_law (ns : List Int) (hl : ns.length ≤ 63) : ∃ h', F_law [.scr ns] [] = .ok (.bl true) h' := by
  obtain ⟨h1, e1, P1⟩ := pool_ok ns hl
  obtain ⟨lap, x6, x7, h2, e2, P2⟩ := six_ok (s0 := .scr ns) (x3 := .u) (x4 := .u) (x5 := .u) (rngL 0 6) .u .u .u h1 P1
  have hb : AllB (h2 ++ [Ob.lst duesL]) := hb_all (pool_all P2 nilB)
  obtain ⟨p, ps, rfl, _⟩ := P2
  obtain ⟨x5, e3⟩ := rows_loop (s0 := .scr ns) (p0 := .ref 0) (lap := lap) (x6 := x6) (x7 := x7) hb rfl 19 0 .u rows19.symm
  have c1 := callF_v (n := 1) (g := F__law_pool) (fl := aCons (eVar 0) aNil) (ρ := [.scr ns, .u, .u, .u, .u, .u, .u, .u]) (h := []) (h1 := []) (ds := [.scr ns]) rfl rfl
  rw [e1] at c1
  have rng6 : DL.iRng1 (aCons (eC (.int 6)) aNil) [.scr ns, .ref 0, .u, .u, .u, .u, .u, .u] h1 = .ok (rngL 0 6) h1 := rfl
  have key : m_law [.scr ns, .u, .u, .u, .u, .u, .u, .u] [] = .rt (.bl true) [.lst (.int p :: ps.map D.int), .lst duesL] := by
    unfold m_law
    rw [seq_nx (set_v c1)]
    refine (seq_nx (ρ' := [.scr ns, .ref 0, lap, .u, .u, .u, x6, x7]) (h' := [.lst (.int p :: ps.map D.int)]) (for_v rng6 e2)).trans ?_
    refine (seq_nx (ρ' := [.scr ns, .ref 0, lap, .tup (wv (rowsL.take 17)), .u, .u, x6, x7]) (h' := [.lst (.int p :: ps.map D.int)]) (by kernel_rfl)).trans ?_
    refine (seq_nx (ρ' := [.scr ns, .ref 0, lap, .tup (wv (rowsL.take 17)), .ref 1, .u, x6, x7]) (h' := [.lst (.int p :: ps.map D.int), .lst ((rowsL.take 16).map dueD)]) (by kernel_rfl)).trans ?_
    refine (seq_nx (ρ' := [.scr ns, .ref 0, lap, .tup (wv (rowsL.take 17)), .ref 1, .u, x6, x7]) (h' := [.lst (.int p :: ps.map D.int), .lst ((rowsL.take 17).map dueD)]) (by kernel_rfl)).trans ?_
    refine (seq_nx (ρ' := [.scr ns, .ref 0, lap, .tup (wv rowsL), .ref 1, .u, x6, x7]) (h' := [.lst (.int p :: ps.map D.int), .lst ((rowsL.take 17).map dueD)]) (by kernel_rfl)).trans ?_
    refine (seq_nx (ρ' := [.scr ns, .ref 0, lap, .tup (wv rowsL), .ref 1, .u, x6, x7]) (h' := [.lst (.int p :: ps.map D.int), .lst duesL]) (by kernel_rfl)).trans ?_
    refine (seq_nx (ρ' := [.scr ns, .ref 0, lap, .tup (wv rowsL), .ref 1, x5, x6, x7]) (h' := [.lst (.int p :: ps.map D.int), .lst duesL]) (for_v (ds := (List.range' 0 19).map fun (k : Nat) => D.int (0 + (k : Int))) (by kernel_rfl) e3)).trans ?_
    rfl
  refine ⟨[], ?_⟩
  show gcR 0 (endF (m_law [.scr ns, .u, .u, .u, .u, .u, .u, .u] [])) = _
  rw [key]
  rfl

end k01
open PySem PySem.W PySem.Calls PyProof.Rows in
theorem PySem.Challenge.cw_roundcredits_k01_lexemes_holds : PySem.Challenge.rw_roundcredits_k01_lexemes.Holds := by
  w_on; o_law
  refine HandSHeadRun.head_any (r := OpenLaw.row PySem.Challenge.rw_roundcredits_k01_lexemes) (q := view (OpenLaw.row PySem.Challenge.rw_roundcredits_k01_lexemes).prog [22]) (H := k01.hk) (ob := k01.ob) (M := 4000) (loose := k01.loose) (d := HandSHeadRun.topDef (OpenLaw.row PySem.Challenge.rw_roundcredits_k01_lexemes).prog 22) (kwd := []) k01.ob_eq
    (by kernel_rfl) (fun s => by kernel_rfl) k01.head_run (by kernel_rfl) (by kernel_rfl) (by kernel_rfl) (by rfl) (by first | assumption | decide +kernel) (by decide +kernel) ⟨rfl, rfl, rfl, rfl, rfl, by decide +kernel⟩ ?hw ?hc
  case hw => w_witness2
  case hc =>
    refine L2.walk_ofE (l := PySem.Challenge.rw_roundcredits_k01_lexemes) (n := 63) (k := 6) (x := "script") (CX := DL.CXw k01.PP) rfl (by decide) (by kernel_rfl) ⟨rfl, by decide, by decide⟩ ?F (fun H s e s1 z => DL.no_cx H s e s1 z)
    intro w mg fa h Y G hmg0
    obtain ⟨K, KX, c⟩ := Y
    have hmg : mg ("law" : PySem.Str) = some (.ref fa) := by
      have e : (HandSHeadRun.topDef (OpenLaw.row PySem.Challenge.rw_roundcredits_k01_lexemes).prog 22).name = ("law" : PySem.Str) := by kernel_rfl
      rw [← e]
      exact hmg0
    obtain ⟨Γ, hΓ⟩ := k01.env_of KX G c
    have ea := Option.some.inj (hmg.symm.trans Γ.g_law)
    cases ea
    have b := L2.FunD.bindsA (ps := ["script"]) Γ.F_law fun _ _ _ _ _ _ us hl => match us, hl with | [_], _ => rfl
    exact ⟨K, Γ.d_law, _, KX, fun s v => b s [v] rfl, fun H a ns hl hO hS => DL.law_sp hO hS (k01.plain_law ns hl), fun base _ _ => DL.fn_cx (k01.ok_law Γ)⟩

