import PyProof.Rows.All
import Wide.All
import OpenK.AllK
import Wide.FinOn
import HandS.ForSpec
import HandS.Evl
import HandS.Wide
import HandS.IsInst
import HandS.Defaults
import HandS.TupAny
import HandS.TupMul
import HandS.HeadHook4
import HandS.HeadEnd
import HandS.Head2
import HandS.Iter
import HandS.Conv
import PyProof.AutoSeq1
import HandS.Flt
import HandS.Style
import HandS.Exc
import HandS.ExcOwn
import HandS.TryOnly
import HandS.WordsExc
import HandS.ExcIs
import HandS.HeadHook2
import HandS.SetKeys
import PyProof.MaxThree
import HandS.Codes
import HandS.Flow
import HandS.SetFor
import PyProof.MeetsSeq
import PySem.Challenge.RW_wirestream_k40_two_talks
set_option Elab.async false
set_option linter.all false
set_option maxRecDepth 100000
set_option maxHeartbeats 4000000
/-! Heaps in parts: a list of things owned, each in a part of the heap of its own. -/
namespace Wr
open PySem L2

def Sub (H1 H : Hp) : Prop := ∀ a o, H1 a = some o → H a = some o
theorem Sub.refl (H : Hp) : Sub H H := fun _ _ h => h
theorem Sub.trans {A B C : Hp} (h : Sub A B) (k : Sub B C) : Sub A C := fun a o e => k a o (h a o e)
theorem Sub.none {A B : Hp} (h : Sub A B) {a : Addr} (e : B a = Option.none) : A a = Option.none := by
  cases q : A a with
  | none => rfl
  | some o => rw [h a o q] at e; cases e
def Dis (H1 H2 : Hp) : Prop := ∀ a, H1 a = none ∨ H2 a = none

structure Ck where
  ok : Hp → Prop
  up : ∀ H H', Sub H H' → ok H → ok H'

def Own : List Ck → Hp → Prop
  | [], _ => True
  | c :: cs, H => ∃ H1 H2, Sub H1 H ∧ Sub H2 H ∧ Dis H1 H2 ∧ c.ok H1 ∧ Own cs H2

theorem own_up {cs : List Ck} {H H' : Hp} (s : Sub H H') (o : Own cs H) : Own cs H' := by
  cases cs with
  | nil => exact trivial
  | cons c cs =>
    obtain ⟨H1, H2, a, b, d, e, f⟩ := o
    exact ⟨H1, H2, a.trans s, b.trans s, d, e, f⟩

theorem own_tail {c : Ck} {cs : List Ck} {H : Hp} (o : Own (c :: cs) H) : Own cs H := by
  obtain ⟨H1, H2, a, b, d, e, f⟩ := o
  exact own_up b f
theorem own_head {c : Ck} {cs : List Ck} {H : Hp} (o : Own (c :: cs) H) : c.ok H := by
  obtain ⟨H1, H2, a, b, d, e, f⟩ := o
  exact c.up _ _ a e
theorem own_swap {c d : Ck} {cs : List Ck} {H : Hp} (o : Own (c :: d :: cs) H) : Own (d :: c :: cs) H := by
  obtain ⟨H1, H2, s1, s2, d12, e, H3, H4, s3, s4, d34, e2, f⟩ := o
  let U : Hp := fun a => match H1 a with
    | some o => some o
    | none => H4 a
  have u1 : Sub H1 U := fun a o h => by simp only [U, h]
  have u4 : Sub H4 U := fun a o h => by
    rcases d12 a with q | q
    · simp only [U, q, h]
    · rw [s4 a o h] at q; cases q
  refine ⟨H3, U, s3.trans s2, fun a o h => ?_, fun a => ?_, e2, H1, H4, u1, u4, fun a => ?_, e, f⟩
  · cases q : H1 a with
    | some o' =>
      simp only [U, q] at h
      exact s1 a o (q.trans h)
    | none =>
      simp only [U, q] at h
      exact s2 a o (s4 a o h)
  · rcases d34 a with q | q
    · exact .inl q
    · cases q1 : H1 a with
      | some o' =>
        rcases d12 a with q2 | q2
        · rw [q1] at q2; cases q2
        · exact .inl (s3.none q2)
      | none => exact .inr (by simp only [U, q1, q])
  · rcases d12 a with q | q
    · exact .inl q
    · exact .inr (s4.none q)
theorem own_mid {c : Ck} {as : List Ck} : ∀ {bs : List Ck} {H : Hp}, Own (c :: (bs ++ as)) H → Own (bs ++ c :: as) H
  | [], _, o => o
  | b :: bs, H, o => by
    obtain ⟨H1, H2, s1, s2, d, e, f⟩ := own_swap o
    exact ⟨H1, H2, s1, s2, d, e, own_mid f⟩
theorem own_tl {c : Ck} {cs ds : List Ck} (h : ∀ H, Own cs H → Own ds H) {H : Hp} (o : Own (c :: cs) H) : Own (c :: ds) H := by
  obtain ⟨H1, H2, s1, s2, d, e, f⟩ := o
  exact ⟨H1, H2, s1, s2, d, e, h _ f⟩
theorem own_hd {c d : Ck} {cs : List Ck} (h : ∀ H, c.ok H → d.ok H) {H : Hp} (o : Own (c :: cs) H) : Own (d :: cs) H := by
  obtain ⟨H1, H2, s1, s2, d, e, f⟩ := o
  exact ⟨H1, H2, s1, s2, d, h _ e, f⟩

/-- one out of a list -/
inductive Pick {α : Type} : α → List α → List α → Prop
  | here {a : α} {l : List α} : Pick a (a :: l) l
  | there {a b : α} {l r : List α} : Pick a l r → Pick a (b :: l) (b :: r)
theorem own_pick {c : Ck} {cs rs : List Ck} (p : Pick c cs rs) : ∀ {H : Hp}, Own cs H → Own (c :: rs) H := by
  induction p with
  | here => exact fun o => o
  | there _ ih => exact fun o => own_swap (own_tl (fun _ => ih) o)
theorem own_back {c : Ck} {cs rs : List Ck} (p : Pick c cs rs) : ∀ {H : Hp}, Own (c :: rs) H → Own cs H := by
  induction p with
  | here => exact fun o => o
  | there _ ih => exact fun o => own_tl (fun _ => ih) (own_swap o)
/-- one in the place of another -/
inductive Put {α : Type} : α → α → List α → List α → Prop
  | here {a b : α} {l : List α} : Put a b (a :: l) (b :: l)
  | there {a b c : α} {l r : List α} : Put a b l r → Put a b (c :: l) (c :: r)
theorem Put.two {α : Type} {a b : α} {l r : List α} (p : Put a b l r) : ∃ m, Pick a l m ∧ Pick b r m := by
  induction p with
  | here => exact ⟨_, .here, .here⟩
  | there _ ih =>
    obtain ⟨m, h1, h2⟩ := ih
    exact ⟨_, .there h1, .there h2⟩

/-! ### kinds of things -/
@[irreducible] def pt (a : Addr) (o : HO) : Ck := ⟨fun H => H a = some o, fun _ _ s h => s _ _ h⟩
theorem pt_ok {a : Addr} {o : HO} {H : Hp} : (pt a o).ok H ↔ H a = some o := by unfold pt; exact Iff.rfl
theorem rd_up {H H' : Hp} (s : Sub H H') {a : Addr} {u : HO} (h : Rd H a u) : Rd H' a u := by
  rcases h with h | ⟨o, h⟩
  · exact .inl (s _ _ h)
  · exact .inr ⟨o, s _ _ h⟩
theorem sql_up {K : PySem.W.Frag} {H H' : Hp} (s : Sub H H') {a : Addr} {xs : List V} (h : SqL K H a xs) : SqL K H' a xs := by
  rcases h with h | h
  · exact .inl (rd_up s h)
  · exact .inr h
theorem sqt_up {K : PySem.W.Frag} {H H' : Hp} (s : Sub H H') {a : Addr} {xs : List V} (h : SqT K H a xs) : SqT K H' a xs := by
  rcases h with h | h
  · exact .inl (rd_up s h)
  · exact .inr h
/-- a list, a tuple that is read -/
@[irreducible] def sq (K : PySem.W.Frag) (a : Addr) (xs : List V) : Ck := ⟨fun H => SqL K H a xs, fun _ _ s h => sql_up s h⟩
@[irreducible] def tq (K : PySem.W.Frag) (a : Addr) (xs : List V) : Ck := ⟨fun H => SqT K H a xs, fun _ _ s h => sqt_up s h⟩
theorem sq_ok {K : PySem.W.Frag} {a : Addr} {xs : List V} {H : Hp} : (sq K a xs).ok H ↔ SqL K H a xs := by unfold sq; exact Iff.rfl
theorem tq_ok {K : PySem.W.Frag} {a : Addr} {xs : List V} {H : Hp} : (tq K a xs).ok H ↔ SqT K H a xs := by unfold tq; exact Iff.rfl
/-- several as one; one that there is -/
@[irreducible] def sep (cs : List Ck) : Ck := ⟨Own cs, fun _ _ s h => own_up s h⟩
theorem sep_ok {cs : List Ck} {H : Hp} : (sep cs).ok H ↔ Own cs H := by unfold sep; exact Iff.rfl
@[irreducible] def exk {α : Type} (f : α → Ck) : Ck := ⟨fun H => ∃ x, (f x).ok H, fun _ _ s ⟨x, h⟩ => ⟨x, (f x).up _ _ s h⟩⟩
theorem exk_ok {α : Type} {f : α → Ck} {H : Hp} : (exk f).ok H ↔ ∃ x, (f x).ok H := by unfold exk; exact Iff.rfl
@[irreducible] def pur (p : Prop) : Ck := ⟨fun _ => p, fun _ _ _ h => h⟩
theorem pur_ok {p : Prop} {H : Hp} : (pur p).ok H ↔ p := by unfold pur; exact Iff.rfl

def emp : Hp := fun _ => none
theorem emp_sub (H : Hp) : Sub emp H := fun _ _ h => by cases h
theorem emp_dis (H : Hp) : Dis emp H := fun _ => .inl rfl

theorem own_sep {as : List Ck} : ∀ {cs : List Ck} {H : Hp}, Own (sep as :: cs) H ↔ Own (as ++ cs) H := by
  induction as with
  | nil =>
    intro cs H
    exact ⟨fun o => own_tail o, fun o => ⟨emp, H, emp_sub H, Sub.refl H, emp_dis H, sep_ok.mpr trivial, o⟩⟩
  | cons a as ih =>
    intro cs H
    constructor
    · rintro ⟨H1, H2, s1, s2, d, e, f⟩
      obtain ⟨H3, H4, s3, s4, d34, e3, f4⟩ := sep_ok.mp e
      have o : Own (sep as :: a :: cs) H := by
        refine ⟨H4, fun x => match H3 x with | some o => some o | none => H2 x, s4.trans s1, fun x o h => ?_, fun x => ?_, sep_ok.mpr f4, H3, H2, fun x o h => by simp only [h], fun x o h => ?_, fun x => ?_, e3, f⟩
        · cases q : H3 x with
          | some o' => simp only [q] at h; exact s1 x o (s3 x o (q.trans h))
          | none => simp only [q] at h; exact s2 x o h
        · cases q : H4 x with
          | none => exact .inl rfl
          | some o' =>
            refine .inr ?_
            rcases d34 x with z | z
            · simp only [z]
              rcases d x with z2 | z2
              · rw [s4 x o' q] at z2; cases z2
              · exact z2
            · rw [q] at z; cases z
        · cases q : H3 x with
          | none => simp only [q]; exact h
          | some o' =>
            rcases d x with z | z
            · rw [s3 x o' q] at z; cases z
            · rw [h] at z; cases z
        · rcases d x with z | z
          · exact .inl (s3.none z)
          · exact .inr z
      exact own_tl (fun _ q => ih.mp q) (own_swap o)
    · intro o
      have o2 : Own (a :: sep as :: cs) H := own_tl (fun _ q => ih.mpr q) o
      obtain ⟨H1, H2, s1, s2, d, e, H3, H4, s3, s4, d34, e3, f4⟩ := o2
      refine ⟨fun x => match H1 x with | some o => some o | none => H3 x, H4, fun x o h => ?_, s4.trans s2, fun x => ?_, sep_ok.mpr ⟨H1, H3, fun x o h => by simp only [h], fun x o h => ?_, fun x => ?_, e, sep_ok.mp e3⟩, f4⟩
      · cases q : H1 x with
        | some o' => simp only [q] at h; exact s1 x o (q.trans h)
        | none => simp only [q] at h; exact s2 x o (s3 x o h)
      · cases q : H4 x with
        | none => exact .inr rfl
        | some o' =>
          refine .inl ?_
          rcases d x with z | z
          · simp only [z]
            rcases d34 x with z2 | z2
            · exact z2
            · rw [q] at z2; cases z2
          · rw [s4 x o' q] at z; cases z
      · cases q : H1 x with
        | none => simp only [q]; exact h
        | some o' =>
          rcases d x with z | z
          · rw [q] at z; cases z
          · rw [s3 x o h] at z; cases z
      · rcases d x with z | z
        · exact .inl z
        · exact .inr (s3.none z)
theorem own_ex {α : Type} {f : α → Ck} {cs : List Ck} {H : Hp} : Own (exk f :: cs) H ↔ ∃ x, Own (f x :: cs) H := by
  constructor
  · rintro ⟨H1, H2, s1, s2, d, e, g⟩
    obtain ⟨x, e⟩ := exk_ok.mp e
    exact ⟨x, H1, H2, s1, s2, d, e, g⟩
  · rintro ⟨x, H1, H2, s1, s2, d, e, g⟩
    exact ⟨H1, H2, s1, s2, d, exk_ok.mpr ⟨x, e⟩, g⟩
theorem own_pur {p : Prop} {cs : List Ck} {H : Hp} : Own (pur p :: cs) H ↔ p ∧ Own cs H := by
  constructor
  · intro o
    exact ⟨pur_ok.mp (own_head o), own_tail o⟩
  · rintro ⟨h, o⟩
    exact ⟨emp, H, emp_sub H, Sub.refl H, emp_dis H, pur_ok.mpr h, o⟩
theorem own_one {c : Ck} {H : Hp} (h : c.ok H) : Own [c] H := ⟨H, emp, Sub.refl H, emp_sub H, fun _ => .inr rfl, h, trivial⟩

/-! ### reading, storing, making -/
theorem own_at {a : Addr} {o : HO} {cs rs : List Ck} {H : Hp} (h : Own cs H) (p : Pick (pt a o) cs rs) : H a = some o := pt_ok.mp (own_head (own_pick p h))
theorem own_upd {a : Addr} {o u : HO} {cs : List Ck} {H : Hp} (h : Own (pt a o :: cs) H) : Own (pt a u :: cs) (upd H a u) := by
  obtain ⟨H1, H2, s1, s2, d, e, f⟩ := h
  have n2 : H2 a = none := by
    rcases d a with q | q
    · rw [pt_ok.mp e] at q; cases q
    · exact q
  refine ⟨upd H1 a u, H2, fun b x q => ?_, fun b x q => ?_, fun b => ?_, pt_ok.mpr upd_same, f⟩
  · by_cases hb : b = a
    · subst hb; rw [upd_same] at q ⊢; exact q
    · rw [upd_ne hb] at q ⊢; exact s1 b x q
  · have hb : b ≠ a := fun z => by rw [z, n2] at q; cases q
    rw [upd_ne hb]; exact s2 b x q
  · by_cases hb : b = a
    · subst hb; exact .inr n2
    · rw [upd_ne hb]; exact d b
theorem own_put {a : Addr} {o u : HO} {cs ds : List Ck} {H : Hp} (h : Own cs H) (p : Put (pt a o) (pt a u) cs ds) : Own ds (upd H a u) := by
  obtain ⟨m, h1, h2⟩ := p.two
  exact own_back h2 (own_upd (own_pick h1 h))
theorem own_new {a : Addr} {u : HO} {cs : List Ck} {H : Hp} (h : Own cs H) (n : H a = none) : Own (pt a u :: cs) (upd H a u) := by
  refine ⟨fun b => if b = a then some u else none, H, fun b x q => ?_, fun b x q => ?_, fun b => ?_, pt_ok.mpr (by simp), h⟩
  · by_cases hb : b = a
    · subst hb; rw [upd_same]; simpa using q
    · simp [hb] at q
  · have hb : b ≠ a := fun z => by rw [z, n] at q; cases q
    rw [upd_ne hb]; exact q
  · by_cases hb : b = a
    · subst hb; exact .inr n
    · simp [hb]
theorem own_sql {K : PySem.W.Frag} {a : Addr} {xs : List V} {cs rs : List Ck} {H : Hp} (h : Own cs H) (p : Pick (sq K a xs) cs rs) : SqL K H a xs := sq_ok.mp (own_head (own_pick p h))
theorem own_sqt {K : PySem.W.Frag} {a : Addr} {xs : List V} {cs rs : List Ck} {H : Hp} (h : Own cs H) (p : Pick (tq K a xs) cs rs) : SqT K H a xs := tq_ok.mp (own_head (own_pick p h))
theorem own_sql_pt {K : PySem.W.Frag} {a : Addr} {xs : List V} {cs rs : List Ck} {H : Hp} (h : Own cs H) (p : Pick (pt a (.lst xs)) cs rs) : SqL K H a xs := .inl (.inl (own_at h p))
theorem own_sqt_pt {K : PySem.W.Frag} {a : Addr} {xs : List V} {cs rs : List Ck} {H : Hp} (h : Own cs H) (p : Pick (pt a (.tup xs)) cs rs) : SqT K H a xs := .inl (.inl (own_at h p))
theorem own_to_sq {K : PySem.W.Frag} {a : Addr} {xs : List V} {cs : List Ck} {H : Hp} (h : Own (pt a (.lst xs) :: cs) H) : Own (sq K a xs :: cs) H := own_hd (fun _ q => sq_ok.mpr (.inl (.inl (pt_ok.mp q)))) h
theorem own_to_tq {K : PySem.W.Frag} {a : Addr} {xs : List V} {cs : List Ck} {H : Hp} (h : Own (pt a (.tup xs) :: cs) H) : Own (tq K a xs :: cs) H := own_hd (fun _ q => tq_ok.mpr (.inl (.inl (pt_ok.mp q)))) h
end Wr

/-! Defs as data; what expressions come to. -/
namespace Wr
open PySem PySem.Spec PyProof.Rows L2 Evl

/-! ### a def that stands at a name of the module -/
structure Df (P : Program) (w : World) (K : PySem.W.Frag) (mg : Str → Option Value) (base : Heap) (CX : CXT) (k : Nat) (x : Str) (ps : List Str) (sp : Sp) : Prop where
  ex : ∃ (f : Addr) (fd : FuncData), FnOk P w K mg base CX k f fd ps sp ∧ mg x = some (.ref f) ∧ PySem.W.keepIn K (.ref f) = true ∧ Binds K fd ps []

theorem pe_df {X : Cx} {k : Nat} {x : Str} {ps : List Str} {sp : Sp} {e : Expr} {es : List Expr} {t : TA} {p pos : Pos} (D : Df X.prog X.w X.K X.mg X.base CX0 k x ps sp) (hr : Room k X.A) (ha : PA X (e :: es) t)
    (hg : Gl X x := by rfl) (hdb : (x == ("__debug__" : Str)) = false := by decide) (he : starEach (e :: es) X.env = (false, eval e X.env) :: starEach es X.env := by rfl) (hpl : (backTo pos (starEach es X.env)).any (·.1) = false := by rfl) :
    PE X (.Call (.Name x p) (e :: es) [] pos) (tCall sp [] (fun _ _ _ => False) t) := by
  obtain ⟨f, fd, G, hm, kp, b⟩ := D.ex
  exact pe_call G hr hg hm kp b .nil pass0 ha hdb he hpl

/-! ### what the top has left -/
structure Tx (fa : List He.Fa) (fn : List He.DefD) (ex : PySem.W.Frag → Bool) (w : World) (K : PySem.W.Frag) (mg : Str → Option Value) : Prop where
  hp : ∃ h : Heap, K.In h ∧ h.Ns mainGlobals mg
  says : He.SaysD fa fn K
  more : ex K = true
section
variable {fa : List He.Fa} {fn : List He.DefD} {ex : PySem.W.Frag → Bool} {w : World} {K : PySem.W.Frag} {mg : Str → Option Value}
theorem Tx.int (T : Tx fa fn ex w K mg) (i : Nat) {x : Str} {n : Int} (h : fa[i]? = some (.int x n) := by rfl) : ∃ t, mg x = some (.int n t) := by
  obtain ⟨h1, X, G⟩ := T.hp
  exact He.int_ok X G (T.says.fact i h)
theorem Tx.str (T : Tx fa fn ex w K mg) (i : Nat) {x z : Str} (h : fa[i]? = some (.str x z) := by rfl) : ∃ t, mg x = some (.str z t) := by
  obtain ⟨h1, X, G⟩ := T.hp
  exact He.str_ok X G (T.says.fact i h)
theorem Tx.free (T : Tx fa fn ex w K mg) (i : Nat) {x : Str} (h : fa[i]? = some (.free x) := by rfl) : mg x = none := by
  obtain ⟨h1, X, G⟩ := T.hp
  exact He.free_ok X G (T.says.fact i h)
theorem Tx.glo (T : Tx fa fn ex w K mg) (i : Nat) {x : Str} (h : fa[i]? = some (.glo x) := by rfl) : mg x = some (.ref (He.ga K x)) := by
  obtain ⟨h1, X, G⟩ := T.hp
  exact He.glo_ok X G (T.says.fact i h)
end
/-- a global int, a global text -/
theorem pe_gi {X : Cx} {x : Str} {p : Pos} {n : Int} (hm : ∃ t, X.mg x = some (.int n t)) (hg : Gl X x := by rfl) (hd : (x == ("__debug__" : Str)) = false := by decide) : PE X (.Name x p) (tC (.int n)) := by
  obtain ⟨t, e⟩ := hm
  exact pe_glob hg e ⟨t, rfl⟩ (hd := hd)
theorem pe_gs {X : Cx} {x : Str} {p : Pos} {z : Str} (hm : ∃ t, X.mg x = some (.str z t)) (hg : Gl X x := by rfl) (hd : (x == ("__debug__" : Str)) = false := by decide) : PE X (.Name x p) (tC (.str z)) := by
  obtain ⟨t, e⟩ := hm
  exact pe_glob hg e ⟨t, rfl⟩ (hd := hd)

section
variable {P : Program} {w : World} {K : PySem.W.Frag} {mg : Str → Option Value} {base : Heap} {fa : List He.Fa} {fn : List He.DefD} {ex : PySem.W.Frag → Bool}
/-- a def of the text: its number among fn, and the number of its name among fa -/
theorem df_mk {x : Str} {N ps : List Str} {k : Nat} {sp : Sp} {ar : Arguments} {bo : List Stmt} {sc : Scope} (T : Tx fa fn ex w K mg) (i j : Nat) (hi : fn[i]? = some ⟨(x, none), x, x, ar, bo, sc, [], []⟩) (hj : fa[j]? = some (.glo x)) (S : FnScope N ps sc)
    (hb : ∀ (kV doc pm : Value) (an : Option Addr) (cdv ct : Value) (us : List Value), us.length = ps.length → bindArgs (PySem.W.fnOf x x ar bo sc .none kV doc pm an cdv ct) ⟨us, []⟩ = pure (ps.zip us))
    (len : ∀ vs H Q E, sp vs H Q E → vs.length = ps.length)
    (hbody : ∀ (f : Addr) (cdv : Value) (A : Around) (outer : List Env) (s : Shared) (H : Hp) (vs : List V) (Q : VK) (E : XK), Room k (A.deeper (envOfC x sc s.heap.objs.size f cdv)) → sp vs H Q E →
      ∃ t, PSs (cxOf CX0 P w K mg base N x sc f cdv A outer s H E).nox bo t ∧ t { nx := fun _ H' => Q .non H', rt := Q } (start N vs) H) : Df P w K mg base CX0 (k + 1) x ps sp := by
  obtain ⟨fd, F⟩ := T.says.def_ i hi
  have h1 := T.glo j hj
  refine ⟨He.ga K x, fd, ?_, h1, F.kp, F.bindsN hb⟩
  refine F.ok S len fun cdv A outer s H vs Q E hr h => ?_
  obtain ⟨t, q, r⟩ := hbody _ cdv A outer s H vs Q E hr h
  exact ⟨t, q.nox, r⟩
end

/-! ### promises of defs that change nothing -/
def SpO (pre : List V → Hp → V → Prop) : Sp := fun vs H Q _ => ∃ v, pre vs H v ∧ ∀ H', Ex H H' → Q v H'
def SpLi (pre : List V → Hp → List Int → Prop) : Sp := fun vs H Q _ => ∃ xs, pre vs H xs ∧ ∀ p H', H p = none → Ex H H' → H' p = some (.lst (xs.map V.int)) → Q (.ref p) H'
theorem spv {pre : List V → Hp → V → Prop} {vs : List V} {H : Hp} {v : V} (h : ∀ H1, Ex H H1 → pre vs H1 v) : SpV (SpO pre) vs H v := fun H1 e Q q E => ⟨v, h H1 e, fun H2 e2 => q H2 e2⟩
theorem spl {pre : List V → Hp → List Int → Prop} {vs : List V} {H : Hp} {xs : List Int} (h : ∀ H1, Ex H H1 → pre vs H1 xs) : SpL (SpLi pre) vs H (xs.map V.int) := fun H1 e Q q E => ⟨xs, h H1 e, fun p H2 n e2 hp => q p H2 n e2 hp⟩

/-! ### values -/
section
variable {K : PySem.W.Frag} {σ : L2.St} {H H' : Hp} {ta tb tc te tx : TE} {t u : TT} {x y z v : V} {r : R2} {i j k : Int}
theorem ev_i0 {g : Int → Int → V} (ha : Ev ta σ H (.int i)) (hb : Ev tb σ H (.int j)) : Ev (tOp (rI0 g) ta tb) σ H (g i j) := ev_op ha hb rv_I0
theorem ev_iC {C : Int → Int → Prop} {g : Int → Int → V} (hc : C i j) (ha : Ev ta σ H (.int i)) (hb : Ev tb σ H (.int j)) : Ev (tOp (rI C g) ta tb) σ H (g i j) := ev_op ha hb (rv_I hc)
theorem dec_V {i j : Int} : decide (V.int i = V.int j) = decide (i = j) := by
  by_cases h : i = j
  · subst h; simp
  · rw [decide_eq_false h, decide_eq_false (fun e => h (V.int.inj e))]
theorem dec_S {i j : Str} : decide (V.str i = V.str j) = decide (i = j) := by
  by_cases h : i = j
  · subst h; simp
  · rw [decide_eq_false h, decide_eq_false (fun e => h (V.str.inj e))]
theorem dec_B {i j : Bool} : decide (V.bl i = V.bl j) = decide (i = j) := by cases i <;> cases j <;> rfl
theorem ev_eqI (ha : Ev ta σ H (.int i)) (hb : Ev tb σ H (.int j)) : Ev (tOp rEq ta tb) σ H (.bl (decide (i = j))) := dec_V ▸ ev_op ha hb (rv_eq rfl)
theorem ev_neI (ha : Ev ta σ H (.int i)) (hb : Ev tb σ H (.int j)) : Ev (tOp rNe ta tb) σ H (.bl (!decide (i = j))) := dec_V ▸ ev_op ha hb (rv_ne rfl)
theorem ev_eqS {i j : Str} (ha : Ev ta σ H (.str i)) (hb : Ev tb σ H (.str j)) : Ev (tOp rEq ta tb) σ H (.bl (decide (i = j))) := dec_S ▸ ev_op ha hb (rv_eq rfl)
theorem ev_neS {i j : Str} (ha : Ev ta σ H (.str i)) (hb : Ev tb σ H (.str j)) : Ev (tOp rNe ta tb) σ H (.bl (!decide (i = j))) := dec_S ▸ ev_op ha hb (rv_ne rfl)
theorem ev_eqB {i j : Bool} (ha : Ev ta σ H (.bl i)) (hb : Ev tb σ H (.bl j)) : Ev (tOp rEq ta tb) σ H (.bl (decide (i = j))) := dec_B ▸ ev_op ha hb (rv_eq rfl)
theorem ev_neB {i j : Bool} (ha : Ev ta σ H (.bl i)) (hb : Ev tb σ H (.bl j)) : Ev (tOp rNe ta tb) σ H (.bl (!decide (i = j))) := dec_B ▸ ev_op ha hb (rv_ne rfl)
theorem ev_neg (ha : Ev ta σ H (.int i)) : Ev (tUn (rU fun i => .int (-i)) ta) σ H (.int (-i)) := ev_un ha ru_neg
theorem ev_ch {f g : Int → Int → Bool} (ha : Ev ta σ H (.int i)) (hb : Ev tb σ H (.int j)) (hc : Ev tc σ H (.int k)) : Ev (tChain (rI0 fun i j => .bl (f i j)) (rI0 fun i j => .bl (g i j)) ta tb tc) σ H (.bl (f i j && g j k)) := fun H1 e Q q =>
  ha H1 e _ fun H2 e2 => hb H2 (e.trans e2) _ fun H3 e3 => by
    refine ⟨i, j, rfl, rfl, f i j, rfl, ?_⟩
    cases h : f i j with
    | true =>
      rw [if_pos rfl]
      refine hc H3 ((e.trans e2).trans e3) _ fun H4 e4 => ⟨j, k, rfl, rfl, ?_⟩
      have q2 := q H4 ((e2.trans e3).trans e4)
      rw [h, Bool.true_and] at q2
      exact q2
    | false =>
      rw [if_neg Bool.false_ne_true]
      have q2 := q H3 (e2.trans e3)
      rw [h, Bool.false_and] at q2
      exact q2
/-- the truth of a list, a tuple, an int, a bool, a text -/
theorem et_truL {a : Addr} {xs : List V} (ha : Ev ta σ H (.ref a)) (h : SqL K H a xs) : EvT (fun σ H Q => ta σ H fun x H' => ∃ k, TruV K x H' k ∧ Q k H') σ H (!xs.isEmpty) := fun H1 e Q q =>
  ha H1 e _ fun H2 e2 => ⟨_, .inl ⟨xs, ex_l (e.trans e2) h, rfl⟩, q H2 e2⟩
theorem et_truT {a : Addr} {xs : List V} (ha : Ev ta σ H (.ref a)) (h : SqT K H a xs) : EvT (fun σ H Q => ta σ H fun x H' => ∃ k, TruV K x H' k ∧ Q k H') σ H (!xs.isEmpty) := fun H1 e Q q =>
  ha H1 e _ fun H2 e2 => ⟨_, .inr (.inl ⟨xs, ex_t (e.trans e2) h, rfl⟩), q H2 e2⟩
theorem et_truB {b : Bool} (ha : Ev ta σ H (.bl b)) : EvT (fun σ H Q => ta σ H fun x H' => ∃ k, TruV K x H' k ∧ Q k H') σ H b := fun H1 e Q q =>
  ha H1 e _ fun H2 e2 => ⟨_, rfl, q H2 e2⟩
theorem et_truS {z : Str} (ha : Ev ta σ H (.str z)) (hz : z.length ≤ 100000) : EvT (fun σ H Q => ta σ H fun x H' => ∃ k, TruV K x H' k ∧ Q k H') σ H ((z.length : Int) != 0) := fun H1 e Q q =>
  ha H1 e _ fun H2 e2 => ⟨_, ⟨sz_of hz, rfl⟩, q H2 e2⟩
/-- isinstance(x, T) -/
theorem ev_isi {c : V} {t u : Value} {b : Bool} (ha : Ev ta σ H x) (hb : Ev tb σ H c) (hc : ClsV c u) (ty : ∀ H1, Ex H H1 → TyX K H1 x t) (hk : PySem.W.kitOne K t u = some b) : Ev (tCB (rIsi K) (tCons ta (tCons tb tNil))) σ H (.bl b) := fun H1 e Q q =>
  ha H1 e _ fun H2 e2 => hb H2 (e.trans e2) _ fun H3 e3 => ⟨x, c, t, u, b, rfl, hc, ty H3 ((e.trans e2).trans e3), hk, q H3 (e2.trans e3)⟩
/-- len -/
theorem ev_lenL {p : Addr} {xs : List V} (h : SqL K H p xs) (ha : Ev ta σ H (.ref p)) : Ev (tCB (fun xs H Q => ∃ p ys, xs = [.ref p] ∧ (SqL K H p ys ∨ SqT K H p ys) ∧ Q (.int ys.length) H) (tCons ta tNil)) σ H (.int (xs.length : Int)) := fun H1 e Q q =>
  ha H1 e _ fun H2 e2 => ⟨p, xs, rfl, Or.inl (ex_l (e.trans e2) h), q H2 e2⟩
theorem ev_lenT {p : Addr} {xs : List V} (h : SqT K H p xs) (ha : Ev ta σ H (.ref p)) : Ev (tCB (fun xs H Q => ∃ p ys, xs = [.ref p] ∧ (SqL K H p ys ∨ SqT K H p ys) ∧ Q (.int ys.length) H) (tCons ta tNil)) σ H (.int (xs.length : Int)) := fun H1 e Q q =>
  ha H1 e _ fun H2 e2 => ⟨p, xs, rfl, Or.inr (ex_t (e.trans e2) h), q H2 e2⟩
theorem ev_ixL {p : Addr} {xs : List V} (h : SqL K H p xs) (ha : Ev ta σ H (.ref p)) (hb : Ev tb σ H (.int i)) (hx : atI xs i = some v) : Ev (tOp (rIxL K) ta tb) σ H v := ev_op ha hb (rv_ixL h hx)
theorem ev_ixT {p : Addr} {xs : List V} (h : SqT K H p xs) (ha : Ev ta σ H (.ref p)) (hb : Ev tb σ H (.int i)) (hx : atI xs i = some v) : Ev (tOp (rIxT K) ta tb) σ H v := ev_op ha hb (rv_ixT h hx)
end
theorem atI_int {ns : List Int} {i : Int} (h0 : 0 ≤ i) (h1 : i < ns.length) : atI (ns.map V.int) i = some (V.int (ns.getD i.toNat 0)) := by
  unfold atI ixN
  rw [if_pos h0, if_pos (by rw [List.length_map]; exact h1)]
  show (ns.map V.int)[i.toNat]? = _
  have h2 : i.toNat < ns.length := by omega
  rw [List.getElem?_map, List.getElem?_eq_getElem h2, List.getD_eq_getElem?_getD, List.getElem?_eq_getElem h2]
  rfl
theorem at_is {α : Type} {xs : List α} {i : Int} {v w : α} (h : atI xs i = some v) (e : v = w) : atI xs i = some w := e ▸ h
theorem ret_is {Q : VK} {H : Hp} {v w : V} (h : Q v H) (e : v = w) : Q w H := e ▸ h
end Wr

namespace Wr
open PySem PySem.Spec PyProof.Rows L2 Evl
section
variable {K : PySem.W.Frag} {σ : L2.St} {H H' : Hp} {ta tb tc te tx : TE} {t u : TT} {x y z v : V} {r : R2} {i j k : Int} {D : Ends} {tz tu tw : TS}
theorem emp_int {ns : List Int} : (ns.map V.int).isEmpty = ns.isEmpty := by cases ns <;> rfl
theorem len_int {ns : List Int} : (((ns.map V.int).length : Nat) : Int) = (ns.length : Int) := by rw [List.length_map]
theorem et_truLi {a : Addr} {ns : List Int} (h : SqL K H a (ns.map V.int)) (ha : Ev ta σ H (.ref a)) : EvT (fun σ H Q => ta σ H fun x H' => ∃ k, TruV K x H' k ∧ Q k H') σ H (!ns.isEmpty) := et_is (et_truL ha h) (by rw [emp_int])
theorem ev_lenLi {p : Addr} {ns : List Int} (h : SqL K H p (ns.map V.int)) (ha : Ev ta σ H (.ref p)) : Ev (tCB (fun xs H Q => ∃ p ys, xs = [.ref p] ∧ (SqL K H p ys ∨ SqT K H p ys) ∧ Q (.int ys.length) H) (tCons ta tNil)) σ H (.int (ns.length : Int)) := ev_is (ev_lenL h ha) (by rw [len_int])
theorem ev_ixLi {p : Addr} {ns : List Int} (h : SqL K H p (ns.map V.int)) (ha : Ev ta σ H (.ref p)) (hb : Ev tb σ H (.int i)) (hx : 0 ≤ i ∧ i < ns.length) : Ev (tOp (rIxL K) ta tb) σ H (.int (ns.getD i.toNat 0)) := ev_ixL h ha hb (atI_int hx.1 hx.2)
theorem ev_ife {b : Bool} {x y : V} (h : EvT t σ H b) (h1 : b = true → Ev ta σ H x) (h2 : b = false → Ev tb σ H y) : Ev (tIf t ta tb) σ H (if b = true then x else y) := by
  refine ev_if h (fun e => ?_) (fun e => ?_)
  · rw [if_pos e]; exact h1 e
  · rw [e, if_neg Bool.false_ne_true]; exact h2 e
/-- if t: x = e, x an int: only what is said of it -/
theorem q_ifI {i : Nat} {b : Bool} (P : Int → Prop) (h : EvT t σ H b) (h1 : b = true → ∃ n, Ev te σ H (.int n) ∧ P n) (h2 : b = false → ∃ n, σ[i]? = some (some (.int n)) ∧ P n)
    (k : ∀ n H1, Ex H H1 → P n → tz D (σ.set i (some (.int n))) H1) : tSeq (tIfS t (tAsg te (gName i)) tNext) tz D σ H := by
  refine q_if h (fun e H1 e1 => ?_) (fun e H1 e1 => ?_)
  · obtain ⟨n, hv, p⟩ := h1 e
    exact s_asg (D := { D with nx := tz D }) (hv.mono e1) fun H2 e2 => k n H2 (e1.trans e2) p
  · obtain ⟨n, hv, p⟩ := h2 e
    have e2 : σ.set i (some (.int n)) = σ := by
      refine List.ext_getElem? fun m => ?_
      by_cases hm : i = m
      · subst hm
        rw [List.getElem?_set_self (List.getElem?_eq_some_iff.mp hv).1, hv]
      · rw [List.getElem?_set_ne hm]
    have z := k n H1 e1 p
    rw [e2] at z
    exact z
/-- if t: return False, where t is false -/
theorem q_no {b : Bool} (h : EvT t σ H b) (hb : b = false) (k : ∀ H1, Ex H H1 → tz D σ H1) : tSeq (tIfS t tu tNext) tz D σ H := q_when h (fun e => by rw [hb] at e; cases e) fun _ H1 e1 => k H1 e1
theorem ea_nilI : EvA tNil σ H (([] : List Int).map V.int) := ea_nil
theorem ea_consI {tr : TA} {ns : List Int} (h : Ev ta σ H (.int i)) (hr : EvA tr σ H (ns.map V.int)) : EvA (tCons ta tr) σ H ((i :: ns).map V.int) := ea_cons h hr
theorem el_dispI {tr : TA} {ns : List Int} (h : EvA tr σ H (ns.map V.int)) (hl : ns.length ≤ 100000) : EvL (tLst tr) σ H (ns.map V.int) := el_lst h (by rw [List.length_map]; exact hl)
/-- an item of a new list -/
theorem ev_ixNi {ns : List Int} (ha : EvL ta σ H (ns.map V.int)) (hb : Ev tb σ H (.int i)) (hx : 0 ≤ i ∧ i < ns.length) : Ev (tOp (rIxL K) ta tb) σ H (.int (ns.getD i.toNat 0)) :=
  ev_opL1 ha (fun H1 e => hb.mono e) fun p H1 hp e => rv_ixL (sq_of hp) (atI_int hx.1 hx.2)
end
section
variable {P : Program} {w : World} {K : PySem.W.Frag} {mg : Str → Option Value} {fa : List He.Fa} {fn : List He.DefD} {ex : PySem.W.Frag → Bool}
/-- the law's own def -/
theorem law_mk {x p : Str} {f : Addr} {N : List Str} {k : Nat} {sp : Sp} {ar : Arguments} {bo : List Stmt} {sc : Scope} (T : Tx fa fn ex w K mg) (i j : Nat) (hi : fn[i]? = some ⟨(x, none), x, x, ar, bo, sc, [], []⟩) (hj : fa[j]? = some (.glo x)) (S : FnScope N [p] sc)
    (hb : ∀ (kV doc pm : Value) (an : Option Addr) (cdv ct : Value) (us : List Value), us.length = [p].length → bindArgs (PySem.W.fnOf x x ar bo sc .none kV doc pm an cdv ct) ⟨us, []⟩ = pure ([p].zip us))
    (hfa : mg x = some (.ref f)) (len : ∀ vs H Q E, sp vs H Q E → vs.length = [p].length)
    (hbody : ∀ (base : Heap) (f : Addr) (cdv : Value) (A : Around) (outer : List Env) (s : Shared) (H : Hp) (vs : List V) (Q : VK) (E : XK), Room k (A.deeper (envOfC x sc s.heap.objs.size f cdv)) → sp vs H Q E →
      ∃ t, PSs (cxOf CX0 P w K mg base N x sc f cdv A outer s H E).nox bo t ∧ t { nx := fun _ H' => Q .non H', rt := Q } (start N vs) H) :
    ∃ fd : FuncData, (∀ (s : Shared) (v : Value), BindsTo s fd ⟨[v], []⟩ [(p, v)]) ∧ ∀ base : Heap, K.In base → base.Ns mainGlobals mg → FnOk P w K mg base CX0 (k + 1) f fd [p] sp := by
  obtain ⟨fd, F⟩ := T.says.def_ i hi
  have h1 := T.glo j hj
  have e : f = He.ga K x := Value.ref.inj (Option.some.inj (hfa.symm.trans h1))
  subst e
  have b := FunD.bindsA (ps := [p]) F hb
  refine ⟨fd, fun s v => b s [v] rfl, fun base _ _ => ?_⟩
  refine F.ok S len fun cdv A outer s H vs Q E hr h => ?_
  obtain ⟨t, q, r⟩ := hbody base _ cdv A outer s H vs Q E hr h
  exact ⟨t, q.nox, r⟩
end
end Wr

/-! The program's defs as plain functions. -/
namespace M
def b2i (b : Bool) : Int := if b = true then 1 else 0
/-! ### rounds.py -/
def plus (a b : Int) : Int := (a + b) % 4294967296
def offset (a b : Int) : Int := let far := (a - b) % 4294967296; if decide (2147483648 ≤ far) = true then far - 4294967296 else far
def past (a b : Int) : Bool := decide (0 < offset a b)
/-! ### the laws' draws -/
def cell (ns : List Int) (k : Int) : Int := if (!ns.isEmpty) = true then ns.getD (k % ns.length).toNat 0 else 0
def mix (ns : List Int) (k : Int) : Int :=
  let n1 := (cell ns k + 104729 * (k + 1)) % 4294967291
  let n2 := n1 * 48271 % 4294967279
  (n2 / 64 * 69621 + n2) % 4294967231
theorem mix_lo (ns : List Int) (k : Int) : 0 ≤ mix ns k := Int.emod_nonneg _ (by decide)
theorem mix_hi (ns : List Int) (k : Int) : mix ns k < 4294967231 := Int.emod_lt_of_pos _ (by decide)
theorem cell_pos {ns : List Int} (h : (!ns.isEmpty) = true) : (0 : Int) < (ns.length : Int) := by
  cases ns with
  | nil => cases h
  | cons a l => simp only [List.length_cons]; omega
theorem cell_ix {ns : List Int} {k : Int} (h : (!ns.isEmpty) = true) : 0 ≤ k % (ns.length : Int) ∧ k % (ns.length : Int) < (ns.length : Int) := by
  have := cell_pos h
  exact ⟨Int.emod_nonneg _ (by omega), Int.emod_lt_of_pos _ this⟩
/-! ### sums.py -/
def wsum : List Int → Int
  | [] => 0
  | [a] => 256 * a
  | a :: b :: r => 256 * a + b + wsum r
def fold (t : Int) : Int := if t ≤ 65535 then t else (t - 1) % 65535 + 1
def folded (row : List Int) : Int := fold (wsum row)
def sum_of (row : List Int) : Int := 65535 - folded row
def two (n : Int) : List Int := [n / 256, n % 256]
def four (n : Int) : List Int := two (n / 65536) ++ two (n % 65536)
def number_of (row : List Int) : Int := row.foldl (fun f b => f * 256 + b) 0
/-! ### segments.py -/
structure Seg where
  src : Int
  goal : Int
  num : Int
  ans : Int
  flags : Int
  win : Int
  most : Int
  data : List Int
deriving DecidableEq
def has (s : Seg) (f : Int) : Bool := decide (s.flags / f % 2 = 1)
def length (s : Seg) : Int := (s.data.length : Int) + b2i (has s 2) + b2i (has s 1)
def head (s : Seg) : List Int :=
  two s.src ++ two s.goal ++ four s.num ++ four s.ans ++ [(5 + b2i (decide (0 < s.most))) * 16, s.flags] ++ (two s.win ++ [0, 0, 0, 0]) ++ (if decide (0 < s.most) = true then [2, 4] ++ two s.most else [])
def put (s : Seg) : List Int := let row := head s ++ s.data; row.take 16 ++ two (sum_of row) ++ row.drop 18
/-! ### piles.py -/
structure PileS where
  held : List Int
  come : Int
  early : List (Int × Int)
  last : Option Int
deriving DecidableEq
def Pile0 : PileS := ⟨[], 0, [], none⟩
def room (p : PileS) : Int := 64 - (p.held.length : Int)
/-! ### ends.py -/
inductive St where
  | closed | listen | synSent | synCome | opn | waitOne | waitTwo | closeWait | closing | lastAck | timeWait
deriving DecidableEq
def St.txt : St → String
  | .closed => "closed" | .listen => "listen" | .synSent => "syn sent" | .synCome => "syn come" | .opn => "open" | .waitOne => "wait one"
  | .waitTwo => "wait two" | .closeWait => "close wait" | .closing => "closing" | .lastAck => "last ack" | .timeWait => "time wait"
inductive Er where
  | none | refused | reset | time
deriving DecidableEq
def Er.txt : Er → String
  | .none => "" | .refused => "refused" | .reset => "reset" | .time => "time"
structure EndS where
  ours : Int
  theirs : Int
  first : Int
  state : St
  una : Int
  nxt : Int
  synced : Bool
  rcv : Int
  wnd : Int
  told : Int
  told_by : Int
  most : Int
  out : List Int
  pile : PileS
  fin : Bool
  fin_gone : Bool
  reset : Option Seg
  owes_syn : Bool
  owes_answer : Bool
  since : Int
  wait : Int
  tries : Int
  probing : Bool
  error : Er
deriving DecidableEq
def opened (ours theirs first : Int) (active : Bool) : EndS :=
  { ours := ours, theirs := theirs, first := first, state := if active = true then .synSent else .listen, una := first, nxt := first, synced := false, rcv := 0, wnd := 0, told := 0, told_by := 0, most := 12,
    out := [], pile := Pile0, fin := false, fin_gone := false, reset := none, owes_syn := false, owes_answer := false, since := 0, wait := 1000, tries := 0, probing := false, error := .none }
/-- a slice xs[lo:hi] -/
def sl (xs : List Int) (lo hi : Option Int) : List Int := (xs.drop (HT.sIx xs.length 0 lo)).take (HT.sIx xs.length xs.length hi - HT.sIx xs.length 0 lo)
def outstanding (e : EndS) : Int := offset e.nxt e.una
def mx (a b : Int) : Int := if b > a then b else a
def mn (a b : Int) : Int := if b < a then b else a
def unsent (e : EndS) : Int := if (!e.synced) = true then (e.out.length : Int) else mx 0 ((e.out.length : Int) - outstanding e)
def start (e : EndS) (now : Int) : EndS := { e with since := now, wait := 1000, tries := 0 }
def shut (e : EndS) (why : Er) : EndS := { e with state := .closed, error := why }
/-! ### sending.py -/
def made (e : EndS) (num flags : Int) (data : List Int) : List Int := put ⟨e.ours, e.theirs, num, e.rcv, flags + 16, room e.pile, 0, data⟩
def syn_made (e : EndS) : List Int :=
  if decide (e.state = .synCome) = true then put ⟨e.ours, e.theirs, e.first, e.rcv, 2 + 16, 64, 16, []⟩ else put ⟨e.ours, e.theirs, e.first, 0, 2, 64, 16, []⟩
def again (e : EndS) (now : Int) : EndS × List Int :=
  if decide (e.tries = 6) = true then (shut e .time, []) else
    let e := { e with tries := e.tries + 1, wait := mn (2 * e.wait) 16000, since := now }
    if (!e.synced) = true then (let e := { e with owes_syn := false }; (e, syn_made e)) else
      let many := (e.out.length : Int) - unsent e
      if decide (0 < many) = true then (e, made e e.una 0 (sl e.out none (some (mn (mn many e.most) 16)))) else (e, made e e.una 1 [])
def syn_goes (e : EndS) (now : Int) : EndS × List Int :=
  let e := if decide (e.nxt = e.first) = true then start e now else e
  let e := { e with nxt := plus e.first 1, owes_syn := false }
  (e, syn_made e)
def gone (e : EndS) (now many : Int) : EndS :=
  let e := if decide (outstanding e = 0) = true then start e now else e
  { e with nxt := plus e.nxt many, probing := false, owes_answer := false }
def data_goes (e : EndS) (now many : Int) : EndS × List Int :=
  let at_ := (e.out.length : Int) - unsent e
  let data := sl e.out (some at_) (some (at_ + many))
  let flags := if decide (at_ + many = (e.out.length : Int)) = true then 8 else 0
  let e' := gone e now many
  (e', made e' e.nxt flags data)
def fin_goes (e : EndS) (now : Int) : EndS × List Int :=
  let e' := gone { e with fin_gone := true } now 1
  (e', made e' e.nxt 1 [])
def giving (s : St) : Bool := decide (s = .opn) || decide (s = .waitOne) || decide (s = .closeWait) || decide (s = .closing) || decide (s = .lastAck)
def ending (s : St) : Bool := decide (s = .waitOne) || decide (s = .closing) || decide (s = .lastAck)
def has_more (e : EndS) : Bool := if (giving e.state && decide (0 < unsent e)) = true then true else (ending e.state && !e.fin_gone)
def probe (e : EndS) (now : Int) : EndS × List Int :=
  if (decide (0 < outstanding e) || (decide (0 < e.wnd) || !has_more e)) = true then ({ e with probing := false }, []) else
    if (!e.probing) = true then (start { e with probing := true } now, []) else
      if decide (now - e.since < e.wait) = true then (e, []) else
        let r := if decide (0 < unsent e) = true then data_goes e now 1 else fin_goes e now
        ({ r.1 with wait := e.wait, tries := e.tries, owes_answer := e.owes_answer, since := now }, r.2)
def answer_goes (e : EndS) : EndS × List Int :=
  if (!e.owes_answer || ((decide (e.state = .synSent) || decide (e.state = .closed)) || (decide (e.state = .synCome) && decide (e.nxt = e.first)))) = true then (e, []) else
    ({ e with owes_answer := false }, made { e with owes_answer := false } e.nxt 0 [])
def new_goes (e : EndS) (now : Int) : EndS × List Int :=
  let space := e.wnd - outstanding e
  if (giving e.state && decide (0 < unsent e)) = true then
    let many := mn (mn (mn e.most 16) (unsent e)) (mx 0 space)
    if decide (0 < many) = true then data_goes e now many else (e, [])
  else if (ending e.state && (!e.fin_gone && decide (0 < space))) = true then fin_goes e now else (e, [])
def send (e : EndS) (now : Int) : EndS × List Int :=
  match e.reset with
  | some s => ({ e with reset := none }, put s)
  | none =>
    let e := if (decide (e.state = .timeWait) && decide (120000 ≤ now - e.since)) = true then shut e e.error else e
    if (decide (e.state = .closed) || decide (e.state = .listen)) = true then (e, []) else
      if (decide (0 < outstanding e) && decide (e.wait ≤ now - e.since)) = true then again e now else
        if (decide (e.state = .synSent) || decide (e.state = .synCome)) = true then
          (if (decide (e.nxt = e.first) || e.owes_syn) = true then syn_goes e now else answer_goes e)
        else
          let r1 := new_goes e now
          let r2 := if (!(!r1.2.isEmpty)) = true then probe r1.1 now else r1
          if (!(!r2.2.isEmpty)) = true then answer_goes r2.1 else r2
end M

/-! Ends, piles and segments as they stand in a heap. -/
namespace Wr
open PySem PySem.Spec PyProof.Rows L2 Evl
abbrev cE (K : PySem.W.Frag) : Addr := He.ga K "End"
abbrev cP (K : PySem.W.Frag) : Addr := He.ga K "Pile"
def eflds (e : M.EndS) (ol pp : Addr) (rv : V) : List (Str × V) :=
  [("ours", .int e.ours),
   ("theirs", .int e.theirs),
   ("first", .int e.first),
   ("state", .str (Str.ofString e.state.txt)),
   ("una", .int e.una),
   ("nxt", .int e.nxt),
   ("synced", .bl e.synced),
   ("rcv", .int e.rcv),
   ("wnd", .int e.wnd),
   ("told", .int e.told),
   ("told_by", .int e.told_by),
   ("most", .int e.most),
   ("out", .ref ol),
   ("pile", .ref pp),
   ("fin", .bl e.fin),
   ("fin_gone", .bl e.fin_gone),
   ("reset", rv),
   ("owes_syn", .bl e.owes_syn),
   ("owes_answer", .bl e.owes_answer),
   ("since", .int e.since),
   ("wait", .int e.wait),
   ("tries", .int e.tries),
   ("probing", .bl e.probing),
   ("error", .str (Str.ofString e.error.txt))]
def pflds (q : M.PileS) (hl el : Addr) : List (Str × V) := [("held", .ref hl), ("come", .int q.come), ("early", .ref el), ("last", match q.last with | none => .non | some n => .int n)]
def kvE (l : List (Int × Int)) : List (Key × V) := l.map fun p => (Sum.inl p.1, V.int p.2)
def segVs (s : M.Seg) (d : Addr) : List V := [.int s.src, .int s.goal, .int s.num, .int s.ans, .int s.flags, .int s.win, .int s.most, .ref d]
/-- a segment: a tuple of ints and a tuple of bytes -/
def segA (K : PySem.W.Frag) (a : Addr) (s : M.Seg) : Ck := ⟨fun H => ∃ d, SqT K H a (segVs s d) ∧ SqT K H d (s.data.map V.int), fun _ _ x ⟨d, h1, h2⟩ => ⟨d, sqt_up x h1, sqt_up x h2⟩⟩
def pileA (K : PySem.W.Frag) (p : Addr) (q : M.PileS) : Ck := exk fun dx => exk fun hl => exk fun el => sep [pt p (.ins (cP K) dx (pflds q hl el)), pt hl (.lst (q.held.map V.int)), pt el (.dK (kvE q.early))]
/-- what the classes' walks ask -/
structure EndF (K : PySem.W.Frag) : Prop where
  cl : Cls K (cE K)
  cp : Cls K (cP K)
  na : ∀ f ∈ (["ours", "theirs", "first", "state", "una", "nxt", "synced", "rcv", "wnd", "told", "told_by", "most", "out", "pile", "fin", "fin_gone", "reset", "owes_syn", "owes_answer", "since", "wait", "tries", "probing", "error"] : List Str), NoAttr K (cE K) f
  np : ∀ f ∈ (["held", "come", "early", "last"] : List Str), NoAttr K (cP K) f
section
variable {K : PySem.W.Frag} {σ : L2.St} {H : Hp} {ta tv te : TE} {p : Addr} {e : M.EndS} {cs : List Ck} {D : Ends} {tz : TS}
abbrev SegOk (K : PySem.W.Frag) (a : Addr) (s : M.Seg) (H : Hp) : Prop := (segA K a s).ok H
theorem ex_sub {H H' : Hp} (x : Ex H H') : Sub H H' := x
theorem ck_ex {c : Ck} {H H' : Hp} (x : Ex H H') (h : c.ok H) : c.ok H' := c.up _ _ x h
theorem elk_ours {ol pp : Addr} {rv : V} : (eflds e ol pp rv).lookup ("ours" : Str) = some (.int e.ours) := by kernel_rfl
theorem elk_theirs {ol pp : Addr} {rv : V} : (eflds e ol pp rv).lookup ("theirs" : Str) = some (.int e.theirs) := by kernel_rfl
theorem elk_first {ol pp : Addr} {rv : V} : (eflds e ol pp rv).lookup ("first" : Str) = some (.int e.first) := by kernel_rfl
theorem elk_state {ol pp : Addr} {rv : V} : (eflds e ol pp rv).lookup ("state" : Str) = some (.str (Str.ofString e.state.txt)) := by kernel_rfl
theorem elk_una {ol pp : Addr} {rv : V} : (eflds e ol pp rv).lookup ("una" : Str) = some (.int e.una) := by kernel_rfl
theorem elk_nxt {ol pp : Addr} {rv : V} : (eflds e ol pp rv).lookup ("nxt" : Str) = some (.int e.nxt) := by kernel_rfl
theorem elk_synced {ol pp : Addr} {rv : V} : (eflds e ol pp rv).lookup ("synced" : Str) = some (.bl e.synced) := by kernel_rfl
theorem elk_rcv {ol pp : Addr} {rv : V} : (eflds e ol pp rv).lookup ("rcv" : Str) = some (.int e.rcv) := by kernel_rfl
theorem elk_wnd {ol pp : Addr} {rv : V} : (eflds e ol pp rv).lookup ("wnd" : Str) = some (.int e.wnd) := by kernel_rfl
theorem elk_told {ol pp : Addr} {rv : V} : (eflds e ol pp rv).lookup ("told" : Str) = some (.int e.told) := by kernel_rfl
theorem elk_told_by {ol pp : Addr} {rv : V} : (eflds e ol pp rv).lookup ("told_by" : Str) = some (.int e.told_by) := by kernel_rfl
theorem elk_most {ol pp : Addr} {rv : V} : (eflds e ol pp rv).lookup ("most" : Str) = some (.int e.most) := by kernel_rfl
theorem elk_out {ol pp : Addr} {rv : V} : (eflds e ol pp rv).lookup ("out" : Str) = some (.ref ol) := by kernel_rfl
theorem elk_pile {ol pp : Addr} {rv : V} : (eflds e ol pp rv).lookup ("pile" : Str) = some (.ref pp) := by kernel_rfl
theorem elk_fin {ol pp : Addr} {rv : V} : (eflds e ol pp rv).lookup ("fin" : Str) = some (.bl e.fin) := by kernel_rfl
theorem elk_fin_gone {ol pp : Addr} {rv : V} : (eflds e ol pp rv).lookup ("fin_gone" : Str) = some (.bl e.fin_gone) := by kernel_rfl
theorem elk_reset {ol pp : Addr} {rv : V} : (eflds e ol pp rv).lookup ("reset" : Str) = some (rv) := by kernel_rfl
theorem elk_owes_syn {ol pp : Addr} {rv : V} : (eflds e ol pp rv).lookup ("owes_syn" : Str) = some (.bl e.owes_syn) := by kernel_rfl
theorem elk_owes_answer {ol pp : Addr} {rv : V} : (eflds e ol pp rv).lookup ("owes_answer" : Str) = some (.bl e.owes_answer) := by kernel_rfl
theorem elk_since {ol pp : Addr} {rv : V} : (eflds e ol pp rv).lookup ("since" : Str) = some (.int e.since) := by kernel_rfl
theorem elk_wait {ol pp : Addr} {rv : V} : (eflds e ol pp rv).lookup ("wait" : Str) = some (.int e.wait) := by kernel_rfl
theorem elk_tries {ol pp : Addr} {rv : V} : (eflds e ol pp rv).lookup ("tries" : Str) = some (.int e.tries) := by kernel_rfl
theorem elk_probing {ol pp : Addr} {rv : V} : (eflds e ol pp rv).lookup ("probing" : Str) = some (.bl e.probing) := by kernel_rfl
theorem elk_error {ol pp : Addr} {rv : V} : (eflds e ol pp rv).lookup ("error" : Str) = some (.str (Str.ofString e.error.txt)) := by kernel_rfl
theorem epu_ours {ol pp : Addr} {rv : V} {n : Int} : putF ("ours" : Str) (.int n) (eflds e ol pp rv) = eflds { e with ours := n } ol pp rv := by kernel_rfl
theorem epu_theirs {ol pp : Addr} {rv : V} {n : Int} : putF ("theirs" : Str) (.int n) (eflds e ol pp rv) = eflds { e with theirs := n } ol pp rv := by kernel_rfl
theorem epu_first {ol pp : Addr} {rv : V} {n : Int} : putF ("first" : Str) (.int n) (eflds e ol pp rv) = eflds { e with first := n } ol pp rv := by kernel_rfl
theorem epu_state {ol pp : Addr} {rv : V} {n : M.St} : putF ("state" : Str) (.str (Str.ofString (M.St.txt n))) (eflds e ol pp rv) = eflds { e with state := n } ol pp rv := by kernel_rfl
theorem epu_una {ol pp : Addr} {rv : V} {n : Int} : putF ("una" : Str) (.int n) (eflds e ol pp rv) = eflds { e with una := n } ol pp rv := by kernel_rfl
theorem epu_nxt {ol pp : Addr} {rv : V} {n : Int} : putF ("nxt" : Str) (.int n) (eflds e ol pp rv) = eflds { e with nxt := n } ol pp rv := by kernel_rfl
theorem epu_synced {ol pp : Addr} {rv : V} {n : Bool} : putF ("synced" : Str) (.bl n) (eflds e ol pp rv) = eflds { e with synced := n } ol pp rv := by kernel_rfl
theorem epu_rcv {ol pp : Addr} {rv : V} {n : Int} : putF ("rcv" : Str) (.int n) (eflds e ol pp rv) = eflds { e with rcv := n } ol pp rv := by kernel_rfl
theorem epu_wnd {ol pp : Addr} {rv : V} {n : Int} : putF ("wnd" : Str) (.int n) (eflds e ol pp rv) = eflds { e with wnd := n } ol pp rv := by kernel_rfl
theorem epu_told {ol pp : Addr} {rv : V} {n : Int} : putF ("told" : Str) (.int n) (eflds e ol pp rv) = eflds { e with told := n } ol pp rv := by kernel_rfl
theorem epu_told_by {ol pp : Addr} {rv : V} {n : Int} : putF ("told_by" : Str) (.int n) (eflds e ol pp rv) = eflds { e with told_by := n } ol pp rv := by kernel_rfl
theorem epu_most {ol pp : Addr} {rv : V} {n : Int} : putF ("most" : Str) (.int n) (eflds e ol pp rv) = eflds { e with most := n } ol pp rv := by kernel_rfl
theorem epu_fin {ol pp : Addr} {rv : V} {n : Bool} : putF ("fin" : Str) (.bl n) (eflds e ol pp rv) = eflds { e with fin := n } ol pp rv := by kernel_rfl
theorem epu_fin_gone {ol pp : Addr} {rv : V} {n : Bool} : putF ("fin_gone" : Str) (.bl n) (eflds e ol pp rv) = eflds { e with fin_gone := n } ol pp rv := by kernel_rfl
theorem epu_owes_syn {ol pp : Addr} {rv : V} {n : Bool} : putF ("owes_syn" : Str) (.bl n) (eflds e ol pp rv) = eflds { e with owes_syn := n } ol pp rv := by kernel_rfl
theorem epu_owes_answer {ol pp : Addr} {rv : V} {n : Bool} : putF ("owes_answer" : Str) (.bl n) (eflds e ol pp rv) = eflds { e with owes_answer := n } ol pp rv := by kernel_rfl
theorem epu_since {ol pp : Addr} {rv : V} {n : Int} : putF ("since" : Str) (.int n) (eflds e ol pp rv) = eflds { e with since := n } ol pp rv := by kernel_rfl
theorem epu_wait {ol pp : Addr} {rv : V} {n : Int} : putF ("wait" : Str) (.int n) (eflds e ol pp rv) = eflds { e with wait := n } ol pp rv := by kernel_rfl
theorem epu_tries {ol pp : Addr} {rv : V} {n : Int} : putF ("tries" : Str) (.int n) (eflds e ol pp rv) = eflds { e with tries := n } ol pp rv := by kernel_rfl
theorem epu_probing {ol pp : Addr} {rv : V} {n : Bool} : putF ("probing" : Str) (.bl n) (eflds e ol pp rv) = eflds { e with probing := n } ol pp rv := by kernel_rfl
theorem epu_error {ol pp : Addr} {rv : V} {n : M.Er} : putF ("error" : Str) (.str (Str.ofString (M.Er.txt n))) (eflds e ol pp rv) = eflds { e with error := n } ol pp rv := by kernel_rfl
end
end Wr

namespace Wr
open PySem PySem.Spec PyProof.Rows L2 Evl
theorem sz {n : Nat} (h : Nat.ble n 100000 = true) : n ≤ 100000 := Nat.le_of_ble_eq_true h
/-- a global that is an object -/
theorem pe_gr {X : Cx} {x : Str} {p : Pos} {a : Addr} (hm : X.mg x = some (.ref a)) (hg : Gl X x := by rfl) (hd : (x == ("__debug__" : Str)) = false := by decide) : PE X (.Name x p) (tC (.ref a)) := pe_glob hg hm rfl (hd := hd)
section
variable {K : PySem.W.Frag} {σ : L2.St} {H H' : Hp} {ta tb tc te tx : TE} {t u : TT} {x y z v : V} {r : R2} {i j k : Int} {D : Ends} {tz tu tw : TS}
theorem el_catI {xs ys : List Int} (ha : EvL ta σ H (xs.map V.int)) (hb : EvL tb σ H (ys.map V.int)) (hz : xs.length + ys.length ≤ 100000) : EvL (tOp rCat ta tb) σ H ((xs ++ ys).map V.int) := fun H1 e Q k =>
  ha H1 e _ fun p H2 n1 e2 hp => hb H2 (e.trans e2) _ fun q H3 n2 e3 hq =>
    ⟨p, q, _, _, rfl, rfl, e3 p _ hp, hq, by rw [List.length_map, List.length_map]; exact sz_of hz, fun w hw => by
      rw [← List.map_append]
      exact k w _ (fresh_back (e2.trans e3) hw) ((e2.trans e3).trans (Ex.new hw)) upd_same⟩
/-- the left a list that stands -/
theorem el_catS {xs ys : List Int} {p : Addr} (hp : H p = some (.lst (xs.map V.int))) (ha : Ev ta σ H (.ref p)) (hb : EvL tb σ H (ys.map V.int)) (hz : xs.length + ys.length ≤ 100000) : EvL (tOp rCat ta tb) σ H ((xs ++ ys).map V.int) := fun H1 e Q k =>
  ha H1 e _ fun H2 e2 => hb H2 (e.trans e2) _ fun q H3 n2 e3 hq =>
    ⟨p, q, _, _, rfl, rfl, ((e.trans e2).trans e3) p _ hp, hq, by rw [List.length_map, List.length_map]; exact sz_of hz, fun w hw => by
      rw [← List.map_append]
      exact k w _ (fresh_back (e2.trans e3) hw) ((e2.trans e3).trans (Ex.new hw)) upd_same⟩
theorem cutV_int {xs : List Int} {lo hi : Option Int} : cutV (xs.map V.int) lo hi = (M.sl xs lo hi).map V.int := by
  unfold cutV M.sl
  rw [List.length_map, List.map_take, List.map_drop]
theorem el_slI {xs : List Int} {a : Addr} {tl th : TO} {lo hi : Option Int} (hs : SqL K H a (xs.map V.int)) (h : Ev te σ H (.ref a)) (h1 : EvO tl σ H lo) (h2 : EvO th σ H hi) : EvL (tSl (rSlL K) te tl th) σ H ((M.sl xs lo hi).map V.int) := by
  rw [← cutV_int]
  exact el_sl h h1 h2 hs
/-- xs.extend(new) -/
theorem s_extI {l : Addr} {xs ys : List Int} (hl : H l = some (.lst (xs.map V.int))) (ha : Ev ta σ H (.ref l)) (h : EvL te σ H (ys.map V.int)) (hz : xs.length + ys.length ≤ 100000)
    (k : ∀ H', H' l = some (.lst ((xs ++ ys).map V.int)) → (∀ H0, Ex H0 H → H0 l = none → Ex H0 H') → D.nx σ H') : tDrop (tBM K "list" rExtend ta (tCons te tNil)) D σ H :=
  ha H (Ex.refl H) _ fun H1 e1 => ⟨.inl ⟨rfl, _, sq_of (e1 l _ hl)⟩, h H1 e1 _ fun q H2 n e2 hq =>
    ⟨l, q, _, _, rfl, rfl, (e1.trans e2) l _ hl, hq, by rw [List.length_map, List.length_map]; exact sz_of hz, by
      rw [← List.map_append]
      exact k _ upd_same fun H0 x n0 => Ex.mut ((x.trans e1).trans e2) n0⟩⟩
theorem q_extI {l : Addr} {xs ys : List Int} (hl : H l = some (.lst (xs.map V.int))) (ha : Ev ta σ H (.ref l)) (h : EvL te σ H (ys.map V.int)) (hz : xs.length + ys.length ≤ 100000)
    (k : ∀ H', H' l = some (.lst ((xs ++ ys).map V.int)) → (∀ H0, Ex H0 H → H0 l = none → Ex H0 H') → tz D σ H') : tSeq (tDrop (tBM K "list" rExtend ta (tCons te tNil))) tz D σ H := s_extI (D := { D with nx := tz D }) hl ha h hz k
end
theorem extend_tupG (l : Addr) (items : Array Value) (n : Nat) (b : Addr) (od : Option Addr) (sl : Array (Option Value)) (items2 : Array Value) (n2 : Nat) (hs0 : ¬(!items.isEmpty && Builtin.List.listTooLong (items.size + items2.size)) = true) (hs1 : items.size ≤ sizeLine) (hs2 : items.size + items2.size ≤ sizeLine + 1) :
    Meets (Builtin.«list.extend» ⟨[.ref l, .ref b], []⟩) (fun _ R s => s.heap.get? l = some { cls := .type "list", dict := none, data := .seq items n, slots := #[] } ∧ s.heap.get? b = some { cls := .type "tuple", dict := od, data := .seq items2 n2, slots := sl } ∧ R (.ok (.ret Value.none)) { s with heap := s.heap.update l (Obj.mapSeq fun x => x ++ items2), toks := s.toks }) :=
  .of_wp fun prog w A R s h => by
    obtain ⟨hp, g, d, tk, os⟩ := s; obtain ⟨hl, hb, h⟩ := h; have f1 := AutoSeq1.idx_int; have f2 := AutoSeq1.sub_tuple_tuple; have f3 := AutoSeq1.sub_list_list; have f4 := AutoSeq1.sub_tuple_list; have f5 := AutoSeq1.sub_list_tuple;
    have hz' : (items ++ items2).size ≤ sizeLine + 1 := by rw [Array.size_append]; exact hs2
    wp_walk using (wpAny_updateSeq hl rfl (hz := hs1) (_hz' := hz')), wpAny_loadPart' hl, wpAny_loadPart' hb; exact ⟨_, rfl, h⟩
/-- xs.extend(a tuple) -/
def rExtendT (K : PySem.W.Frag) : V → List V → Hp → VK → Prop := fun x vs H Q => ∃ l b xs zs, x = .ref l ∧ vs = [.ref b] ∧ H l = some (.lst xs) ∧ SqT K H b zs ∧ xs.length + zs.length ≤ sizeLine ∧ Q .non (upd H l (.lst (xs ++ zs)))
theorem mt_extendT {X : Cx} : MtM X "list.extend" (rExtendT X.K) := by
  intro pins s σ H x vs v us Q I rx rv h
  obtain ⟨l, b, xs, zs, rfl, rfl, hH, hB, hz, q⟩ := h
  cases rx
  obtain ⟨u, rfl, ru⟩ := rv.one
  cases ru
  obtain ⟨z, its, n, r, hl, e⟩ := I.lstM hH
  obtain ⟨its2, r2, ⟨o2, e2, c2, n2, d2⟩, z2⟩ := I.tuple hB
  obtain ⟨oc2, od2, dt2, sl2⟩ := o2
  simp only at c2 d2
  subst c2 d2
  have l2 := r2.length
  have hsz : its.toArray.size + its2.toArray.size ≤ sizeLine := by rw [List.size_toArray, List.size_toArray]; omega
  have hlong : ¬ (!its.toArray.isEmpty && Builtin.List.listTooLong (its.toArray.size + its2.toArray.size)) = true := by
    rw [notLongL hsz, Bool.and_false]
    exact Bool.false_ne_true
  refine call_meets F.slot_list_extend ⟨_, e, rfl⟩ F.entry_list_extend (F.args_list_extend_2 _ _)
    (extend_tupG l its.toArray n b od2 sl2 its2.toArray n2 hlong (by rw [List.size_toArray]; omega) (by omega)) ⟨e, e2, ?_⟩
  refine ⟨.non, _, I.lset (its' := its ++ its2) hH e (by simp) (r.append r2) ?_, rfl, q⟩
  rw [List.length_append]
  omega
section
variable {K : PySem.W.Frag} {σ : L2.St} {H H' : Hp} {ta tb tc te tx : TE} {t u : TT} {x y z v : V} {r : R2} {i j k : Int} {D : Ends} {tz tu tw : TS}
theorem q_extT {l b : Addr} {xs ys : List Int} (hl : H l = some (.lst (xs.map V.int))) (ha : Ev ta σ H (.ref l)) (hb : SqT K H b (ys.map V.int)) (h : Ev te σ H (.ref b)) (hz : xs.length + ys.length ≤ 100000)
    (k : ∀ H', H' l = some (.lst ((xs ++ ys).map V.int)) → (∀ H0, Ex H0 H → H0 l = none → Ex H0 H') → tz D σ H') : tSeq (tDrop (tBM K "list" (rExtendT K) ta (tCons te tNil))) tz D σ H :=
  ha H (Ex.refl H) _ fun H1 e1 => ⟨.inl ⟨rfl, _, sq_of (e1 l _ hl)⟩, h H1 e1 _ fun H2 e2 =>
    ⟨l, b, _, _, rfl, rfl, (e1.trans e2) l _ hl, ex_t (e1.trans e2) hb, by rw [List.length_map, List.length_map]; exact sz_of hz, by
      rw [← List.map_append]
      exact k _ upd_same fun H0 x n0 => Ex.mut ((x.trans e1).trans e2) n0⟩⟩
/-- int(x < y) -/
theorem ev_intB {b : Bool} (ha : Ev ta σ H (.bl b)) : Ev (tCB (fun xs H Q => (∃ i, xs = [.int i] ∧ Q (.int i) H) ∨ ∃ k, xs = [.bl k] ∧ Q (.int (if k then 1 else 0)) H) (tCons ta tNil)) σ H (.int (M.b2i b)) := fun H1 e Q q =>
  ha H1 e _ fun H2 e2 => .inr ⟨b, rfl, q H2 e2⟩
/-- for k in range(a, b, c) -/
theorem s_forRC {ta : TA} {jj : Nat} {lo hi c : Int} {n : Nat} (h : EvA ta σ H [.int lo, .int hi, .int c]) (hn : RgC lo hi c n) (Pv : Nat → L2.St → Hp → Prop) (h0 : ∀ H1, Ex H H1 → Pv 0 σ H1)
    (hs : ∀ (i : Nat) σ' H', i < n → Pv i σ' H' → tu { D with nx := Pv (i + 1), ct := Pv (i + 1), bk := D.nx } (σ'.set jj (some (.int (lo + (i : Int) * c)))) H') (hd : ∀ σ' H', Pv n σ' H' → D.nx σ' H') : tFor (iRng3 ta) (gName jj) tu D σ H :=
  h H (Ex.refl H) _ fun H1 e => ⟨lo, hi, c, n, rfl, hn, for_rangeC (lo := lo) (c := c) (n := n) Pv (h0 H1 e) (fun i σ' H' hi p => hs i σ' H' hi p) hd⟩
theorem q_forRC {ta : TA} {jj : Nat} {lo hi c : Int} {n : Nat} (h : EvA ta σ H [.int lo, .int hi, .int c]) (hn : RgC lo hi c n) (Pv : Nat → L2.St → Hp → Prop) (h0 : ∀ H1, Ex H H1 → Pv 0 σ H1)
    (hs : ∀ (i : Nat) σ' H', i < n → Pv i σ' H' → tu { D with nx := Pv (i + 1), ct := Pv (i + 1), bk := tz D } (σ'.set jj (some (.int (lo + (i : Int) * c)))) H') (hd : ∀ σ' H', Pv n σ' H' → tz D σ' H') : tSeq (tFor (iRng3 ta) (gName jj) tu) tz D σ H :=
  s_forRC (D := { D with nx := tz D }) h hn Pv h0 hs hd
end
end Wr

/-! What the sums and segments of the program promise. -/
namespace M
theorem wsum_take {row : List Int} {i : Nat} (h : 2 * i + 1 < row.length) : wsum (row.take (2 * (i + 1))) = wsum (row.take (2 * i)) + 256 * row.getD (2 * i) 0 + row.getD (2 * i + 1) 0 := by
  induction i generalizing row with
  | zero =>
    match row, h with
    | a :: b :: r, _ => simp [wsum]
    | [a], h => simp at h
    | [], h => simp at h
  | succ i ih =>
    match row, h with
    | a :: b :: r, h =>
      have h2 : 2 * i + 1 < r.length := by simp only [List.length_cons] at h; omega
      have e := ih h2
      have e1 : 2 * (i + 1 + 1) = 2 * (i + 1) + 2 := by omega
      have e2 : 2 * (i + 1) = 2 * i + 2 := by omega
      rw [e1]
      simp only [List.take_succ_cons, wsum]
      rw [e, e2]
      simp only [List.take_succ_cons, wsum, List.getD_cons_succ]
      omega
    | [a], h => simp only [List.length_cons, List.length_nil] at h; omega
    | [], h => simp only [List.length_nil] at h; omega
theorem wsum_last {row : List Int} {i : Nat} (h : row.length = 2 * i + 1) : wsum (row.take (2 * (i + 1))) = wsum (row.take (2 * i)) + 256 * row.getD (2 * i) 0 := by
  induction i generalizing row with
  | zero =>
    match row, h with
    | [a], _ => simp [wsum]
    | a :: b :: r, h => simp at h
    | [], h => simp at h
  | succ i ih =>
    match row, h with
    | a :: b :: r, h =>
      have h2 : r.length = 2 * i + 1 := by simp only [List.length_cons] at h; omega
      have e := ih h2
      have e1 : 2 * (i + 1 + 1) = 2 * (i + 1) + 2 := by omega
      have e2 : 2 * (i + 1) = 2 * i + 2 := by omega
      rw [e1]
      simp only [List.take_succ_cons, wsum]
      rw [e, e2]
      simp only [List.take_succ_cons, wsum, List.getD_cons_succ]
      omega
    | [a], h => simp only [List.length_cons, List.length_nil] at h; omega
    | [], h => simp only [List.length_nil] at h; omega
theorem fold_step {t : Int} (h : 65535 < t) : fold (t % 65536 + t / 65536) = fold t ∧ t % 65536 + t / 65536 < t ∧ 0 ≤ t % 65536 + t / 65536 := by
  refine ⟨?_, by omega, by omega⟩
  unfold fold
  have h1 : ¬ t ≤ 65535 := by omega
  rw [if_neg h1]
  split
  · omega
  · omega
theorem fold_end {t : Int} (h : t ≤ 65535) : fold t = t := by unfold fold; rw [if_pos h]
theorem number_of_take {row : List Int} {i : Nat} {n : Int} (h : row[i]? = some n) : number_of (row.take (i + 1)) = number_of (row.take i) * 256 + n := by
  unfold number_of
  rw [List.take_succ, h]
  simp
end M
namespace Wr
open PySem PySem.Spec PyProof.Rows L2 Evl
theorem rgc2 {n : Nat} (h : n ≤ 100000) : RgC 0 (n : Int) 2 ((n + 1) / 2) := by
  have e : Builtin.Range.rangeSize 0 (n : Int) 2 = (((n + 1) / 2 : Nat) : Int) := by
    unfold Builtin.Range.rangeSize
    simp only [show (2 : Int) > 0 by decide, if_true]
    split <;> omega
  refine ⟨by decide, by decide, ?_, e⟩
  have f : ∀ i : Int, -1000000 ≤ i → i ≤ 1000000 → Builtin.Range.rangeFitsLong i = true := fun i h1 h2 => by
    unfold Builtin.Range.rangeFitsLong
    rw [Bool.and_eq_true]
    exact ⟨decide_eq_true (by omega), decide_eq_true (by omega)⟩
  unfold Builtin.Range.small
  rw [e, f 0 (by omega) (by omega), f n (by omega) (by omega), f 2 (by omega) (by omega), f _ (by omega) (by omega), if_pos (by decide), f _ (by omega) (by omega), Bool.or_true]
  rfl
section
variable {K : PySem.W.Frag} {H : Hp}
def p_plus : List V → Hp → V → Prop := fun vs H v => ∃ a b, vs = [.int a, .int b] ∧ v = .int (M.plus a b)
theorem spv_plus {a b : Int} : SpV (SpO p_plus) [.int a, .int b] H (.int (M.plus a b)) := spv fun _ _ => ⟨a, b, rfl, rfl⟩
def p_offset : List V → Hp → V → Prop := fun vs H v => ∃ a b, vs = [.int a, .int b] ∧ v = .int (M.offset a b)
theorem spv_offset {a b : Int} : SpV (SpO p_offset) [.int a, .int b] H (.int (M.offset a b)) := spv fun _ _ => ⟨a, b, rfl, rfl⟩
def p_past : List V → Hp → V → Prop := fun vs H v => ∃ a b, vs = [.int a, .int b] ∧ v = .bl (M.past a b)
theorem spv_past {a b : Int} : SpV (SpO p_past) [.int a, .int b] H (.bl (M.past a b)) := spv fun _ _ => ⟨a, b, rfl, rfl⟩
def p_cell (K : PySem.W.Frag) : List V → Hp → V → Prop := fun vs H v => ∃ a ns k, vs = [.ref a, .int k] ∧ SqL K H a (ns.map V.int) ∧ v = .int (M.cell ns k)
theorem spv_cell {a : Addr} {ns : List Int} {k : Int} (hS : SqL K H a (ns.map V.int)) : SpV (SpO (p_cell K)) [.ref a, .int k] H (.int (M.cell ns k)) := spv fun _ e => ⟨a, ns, k, rfl, ex_l e hS, rfl⟩
def p_mix (K : PySem.W.Frag) : List V → Hp → V → Prop := fun vs H v => ∃ a ns k, vs = [.ref a, .int k] ∧ SqL K H a (ns.map V.int) ∧ v = .int (M.mix ns k)
theorem spv_mix {a : Addr} {ns : List Int} {k : Int} (hS : SqL K H a (ns.map V.int)) : SpV (SpO (p_mix K)) [.ref a, .int k] H (.int (M.mix ns k)) := spv fun _ e => ⟨a, ns, k, rfl, ex_l e hS, rfl⟩
def p_whole : List V → Hp → V → Prop := fun vs H v => ∃ n, vs = [.int n] ∧ v = .bl true
theorem spv_whole {n : Int} : SpV (SpO p_whole) [.int n] H (.bl true) := spv fun _ _ => ⟨n, rfl, rfl⟩
def p_folded (K : PySem.W.Frag) : List V → Hp → V → Prop := fun vs H v => ∃ a ns, vs = [.ref a] ∧ SqL K H a (ns.map V.int) ∧ ns.length ≤ 100000 ∧ v = .int (M.folded ns)
theorem spv_folded {a : Addr} {ns : List Int} (hS : SqL K H a (ns.map V.int)) (hz : ns.length ≤ 100000) : SpV (SpO (p_folded K)) [.ref a] H (.int (M.folded ns)) := spv fun _ e => ⟨a, ns, rfl, ex_l e hS, hz, rfl⟩
def p_sum_of (K : PySem.W.Frag) : List V → Hp → V → Prop := fun vs H v => ∃ a ns, vs = [.ref a] ∧ SqL K H a (ns.map V.int) ∧ ns.length ≤ 100000 ∧ v = .int (M.sum_of ns)
theorem spv_sum_of {a : Addr} {ns : List Int} (hS : SqL K H a (ns.map V.int)) (hz : ns.length ≤ 100000) : SpV (SpO (p_sum_of K)) [.ref a] H (.int (M.sum_of ns)) := spv fun _ e => ⟨a, ns, rfl, ex_l e hS, hz, rfl⟩
def p_two : List V → Hp → List Int → Prop := fun vs H xs => ∃ n, vs = [.int n] ∧ xs = M.two n
theorem spl_two {n : Int} : SpL (SpLi p_two) [.int n] H ((M.two n).map V.int) := spl fun _ _ => ⟨n, rfl, rfl⟩
def p_four : List V → Hp → List Int → Prop := fun vs H xs => ∃ n, vs = [.int n] ∧ xs = M.four n
theorem spl_four {n : Int} : SpL (SpLi p_four) [.int n] H ((M.four n).map V.int) := spl fun _ _ => ⟨n, rfl, rfl⟩
def p_number_of (K : PySem.W.Frag) : List V → Hp → V → Prop := fun vs H v => ∃ a ns, vs = [.ref a] ∧ SqL K H a (ns.map V.int) ∧ v = .int (M.number_of ns)
theorem spv_number_of {a : Addr} {ns : List Int} (hS : SqL K H a (ns.map V.int)) : SpV (SpO (p_number_of K)) [.ref a] H (.int (M.number_of ns)) := spv fun _ e => ⟨a, ns, rfl, ex_l e hS, rfl⟩
def p_has (K : PySem.W.Frag) : List V → Hp → V → Prop := fun vs H v => ∃ a s f, vs = [.ref a, .int f] ∧ SegOk K a s H ∧ (0 < f ∧ f ≤ 1000) ∧ v = .bl (M.has s f)
theorem spv_has {a : Addr} {s : M.Seg} {f : Int} (hS : SegOk K a s H) (hf : 0 < f ∧ f ≤ 1000) : SpV (SpO (p_has K)) [.ref a, .int f] H (.bl (M.has s f)) := spv fun _ e => ⟨a, s, f, rfl, ck_ex e hS, hf, rfl⟩
def p_length (K : PySem.W.Frag) : List V → Hp → V → Prop := fun vs H v => ∃ a s, vs = [.ref a] ∧ SegOk K a s H ∧ v = .int (M.length s)
theorem spv_length {a : Addr} {s : M.Seg} (hS : SegOk K a s H) : SpV (SpO (p_length K)) [.ref a] H (.int (M.length s)) := spv fun _ e => ⟨a, s, rfl, ck_ex e hS, rfl⟩
def p_put (K : PySem.W.Frag) : List V → Hp → List Int → Prop := fun vs H xs => ∃ a s, vs = [.ref a] ∧ SegOk K a s H ∧ s.data.length ≤ 1000 ∧ xs = M.put s
theorem spl_put {a : Addr} {s : M.Seg} (hS : SegOk K a s H) (hd : s.data.length ≤ 1000) : SpL (SpLi (p_put K)) [.ref a] H ((M.put s).map V.int) := spl fun _ e => ⟨a, s, rfl, ck_ex e hS, hd, rfl⟩
/-- a segment's parts -/
theorem seg_at {a : Addr} {s : M.Seg} (h : SegOk K a s H) : ∃ d, SqT K H a (segVs s d) ∧ SqT K H d (s.data.map V.int) := by
  exact h
end
end Wr

namespace Wr
open PySem PySem.Spec PyProof.Rows L2 Evl
section
variable {K : PySem.W.Frag} {σ : L2.St} {H H' : Hp} {ta tb tc te tx : TE} {t u : TT} {x y z v : V} {r : R2} {i j k : Int} {D : Ends} {tz tu tw : TS}
theorem et_yes : EvT tYes σ H true := fun H1 _ _ q => q H1 (Ex.refl H1)
theorem given_all (n : Nat) (v : Nat → V) : Evl.given n (fun _ => true) v = (List.range n).map v := by
  unfold Evl.given
  rw [List.filter_eq_self.mpr (fun _ _ => rfl)]
/-- [e for k in range(n)], ints -/
theorem el_lcRI {ta : TA} {jj : Nat} {vs : List Nat} {n : Int} (g : Nat → Int) (h : EvA ta σ H [.int n]) (hn : 0 ≤ n ∧ n ≤ 40000) (hw : ∀ x, wipe ((wipe σ vs).set jj (some x)) vs = wipe σ vs)
    (he : ∀ (i : Nat) H1, Ex H H1 → (i : Int) < n → Ev te ((wipe σ vs).set jj (some (.int (i : Int)))) H1 (.int (g i))) : EvL (tLc (iRng1 ta) (gName jj) tYes te vs) σ H (((List.range n.toNat).map g).map V.int) := by
  have e := el_lcR1 (te := te) (fun _ => true) (fun i => V.int (g i)) h hn hw (fun _ _ _ _ => et_yes) (fun i H1 e hi _ => he i H1 e hi)
  rw [given_all] at e
  rw [List.map_map]
  exact e
theorem getD_map {ns : List Int} {i : Nat} {x : V} (h : (ns.map V.int)[i]? = some x) : ns[i]? = some (ns.getD i 0) ∧ x = .int (ns.getD i 0) := by
  rw [List.getElem?_map] at h
  cases q : ns[i]? with
  | none => rw [q] at h; cases h
  | some n =>
    rw [q] at h
    have e : ns.getD i 0 = n := by rw [List.getD_eq_getElem?_getD, q]; rfl
    exact ⟨by rw [e], by rw [e]; exact (Option.some.inj h).symm⟩
theorem range_getD (ns : List Int) (g : Int → Int) : (List.range ns.length).map (fun i => g (ns.getD i 0)) = ns.map g := by
  refine List.ext_getElem? fun i => ?_
  rw [List.getElem?_map, List.getElem?_map]
  by_cases h : i < ns.length
  · rw [List.getElem?_range h, List.getElem?_eq_getElem h]
    simp [List.getD_eq_getElem?_getD, List.getElem?_eq_getElem h]
  · rw [List.getElem?_eq_none (by rw [List.length_range]; omega), List.getElem?_eq_none (by omega)]
    rfl
/-- [e for x in xs], ints -/
theorem el_lcLI {a : Addr} {ns : List Int} {tl : TE} {jj : Nat} {vs : List Nat} (g : Int → Int) (hx : SqL K H a (ns.map V.int)) (h : Ev tl σ H (.ref a)) (hz : ns.length ≤ 40000) (hw : ∀ x, wipe ((wipe σ vs).set jj (some x)) vs = wipe σ vs)
    (he : ∀ (n : Int) H1, n ∈ ns → Ex H H1 → Ev te ((wipe σ vs).set jj (some (.int n))) H1 (.int (g n))) : EvL (tLc (iList K tl) (gName jj) tYes te vs) σ H ((ns.map g).map V.int) := by
  have e := el_lcL (te := te) (fun _ => true) (fun i => V.int (g (ns.getD i 0))) h hx (by rw [List.length_map]; exact hz) hw (fun _ _ _ _ _ => et_yes) (fun i x H1 e hi _ => by
    obtain ⟨h1, rfl⟩ := getD_map hi
    exact he _ H1 (List.mem_of_getElem? h1) e)
  rw [given_all, List.length_map] at e
  rw [← range_getD ns g, List.map_map]
  exact e
theorem rep_int {xs : List Int} {n : Nat} : (List.replicate n (xs.map V.int)).flatten = ((List.replicate n xs).flatten).map V.int := by
  induction n with
  | zero => rfl
  | succ n ih => rw [List.replicate_succ, List.replicate_succ, List.flatten_cons, List.flatten_cons, ih, List.map_append]
/-- if t: x = new list: only what is said of it -/
theorem q_ifL {ii : Nat} {b : Bool} (P : List Int → Prop) (h : EvT t σ H b) (h1 : b = true → ∃ xs, EvL te σ H (xs.map V.int) ∧ P xs) (h2 : b = false → ∃ (a : Addr) (xs : List Int), σ[ii]? = some (some (.ref a)) ∧ H a = some (.lst (xs.map V.int)) ∧ P xs)
    (k : ∀ (a : Addr) (xs : List Int) H1, Ex H H1 → H1 a = some (.lst (xs.map V.int)) → P xs → tz D (σ.set ii (some (.ref a))) H1) : tSeq (tIfS t (tAsg te (gName ii)) tNext) tz D σ H := by
  refine q_if h (fun e H1 e1 => ?_) (fun e H1 e1 => ?_)
  · obtain ⟨xs, hv, p⟩ := h1 e
    exact s_asgL (D := { D with nx := tz D }) (hv.mono e1) fun a H2 _ e2 ha => k a xs H2 (e1.trans e2) ha p
  · obtain ⟨a, xs, hv, ha, p⟩ := h2 e
    have e2 : σ.set ii (some (.ref a)) = σ := by
      refine List.ext_getElem? fun m => ?_
      by_cases hm : ii = m
      · subst hm
        rw [List.getElem?_set_self (List.getElem?_eq_some_iff.mp hv).1, hv]
      · rw [List.getElem?_set_ne hm]
    have z := k a xs H1 e1 (e1 _ _ ha) p
    rw [e2] at z
    exact z
/-- [0] * n -/
theorem el_rep0 {a : Addr} {ns : List Int} (h : SqL K H a (ns.map V.int)) (ha : Ev ta σ H (.ref a)) (hz : ns.length ≤ 40000) :
    EvL (tOp rRep (tLst (tCons (tC (.int 0)) tNil)) (tCB (fun xs H Q => ∃ p ys, xs = [.ref p] ∧ (SqL K H p ys ∨ SqT K H p ys) ∧ Q (.int ys.length) H) (tCons ta tNil))) σ H ((List.replicate ns.length (0 : Int)).map V.int) := fun H1 e Q q => by
  refine (el_dispI (ea_consI ev_c ea_nilI) (by decide) : EvL (tLst (tCons (tC (.int 0)) tNil)) σ H (([0] : List Int).map V.int)) H1 e _ fun p H2 n2 e2 h2 => ?_
  refine (ev_lenLi h ha) H2 (e.trans e2) _ fun H3 e3 => ?_
  refine ⟨p, (ns.length : Int), _, rfl, rfl, e3 _ _ h2, by omega, by omega, ?_, fun w hw => ?_⟩
  · rw [Int.toNat_natCast, List.length_map]; show 1 * ns.length ≤ sizeLine; exact sz_of (by omega)
  · have e4 : (List.replicate (ns.length : Int).toNat (([0] : List Int).map V.int)).flatten = (List.replicate ns.length (0 : Int)).map V.int := by
      rw [Int.toNat_natCast, rep_int]
      congr 1
      induction ns.length with
      | zero => rfl
      | succ n ih => rw [List.replicate_succ, List.flatten_cons, ih, List.replicate_succ]; rfl
    rw [e4]
    exact q w _ (fresh_back (e2.trans e3) hw) ((e2.trans e3).trans (Ex.new hw)) upd_same
/-- a call with a new list -/
theorem ev_callL {sp : Sp} {E : XK} {xs : List Int} (h : EvL ta σ H (xs.map V.int)) (hs : ∀ p H1, H1 p = some (.lst (xs.map V.int)) → SpV sp [.ref p] H1 z) : Ev (tCall sp [] E (tCons ta tNil)) σ H z := fun H1 e Q q =>
  h H1 e _ fun p H2 n e2 hp => hs p H2 hp H2 (Ex.refl H2) Q (fun H3 e3 => q H3 (e2.trans e3)) E
end
end Wr
namespace M
theorem sm2 (i : Int) : -(2 ^ 64) < ([256, 1] : List Int).getD i.toNat 0 ∧ ([256, 1] : List Int).getD i.toNat 0 < 2 ^ 64 := by
  match i.toNat with
  | 0 => exact ⟨by decide, by decide⟩
  | 1 => exact ⟨by decide, by decide⟩
  | n + 2 => exact ⟨by show -(2 ^ 64) < (0 : Int); decide, by show (0 : Int) < 2 ^ 64; decide⟩
def Byt (r : List Int) : Prop := r.length ≤ 63 ∧ ∀ x ∈ r, 0 ≤ x ∧ x ≤ 255
def lsum (row : List Int) : Nat → Int
  | 0 => 0
  | i + 1 => lsum row i + row.getD i 0 * ([256, 1] : List Int).getD ((i : Int) % 2).toNat 0
theorem lsum_two (row : List Int) : ∀ i : Nat, 2 * i ≤ row.length → lsum row (2 * i) = wsum (row.take (2 * i)) := by
  intro i
  induction i with
  | zero => intro _; simp [lsum, wsum]
  | succ i ih =>
    intro h
    rw [wsum_take (by omega), ← ih (by omega)]
    have e1 : ((2 * i : Nat) : Int) % 2 = 0 := by omega
    have e2 : ((2 * i + 1 : Nat) : Int) % 2 = 1 := by omega
    show lsum row (2 * i) + row.getD (2 * i) 0 * ([256, 1] : List Int).getD (((2 * i : Nat) : Int) % 2).toNat 0 + row.getD (2 * i + 1) 0 * ([256, 1] : List Int).getD (((2 * i + 1 : Nat) : Int) % 2).toNat 0 = _
    rw [e1, e2]
    show lsum row (2 * i) + row.getD (2 * i) 0 * 256 + row.getD (2 * i + 1) 0 * 1 = _
    omega
theorem lsum_all (row : List Int) : lsum row row.length = wsum row := by
  by_cases h : row.length % 2 = 0
  · have e : row.length = 2 * (row.length / 2) := by omega
    have := lsum_two row (row.length / 2) (by omega)
    rw [← e, List.take_of_length_le (Nat.le_refl _)] at this
    exact this
  · have e : row.length = 2 * (row.length / 2) + 1 := by omega
    have h1 := lsum_two row (row.length / 2) (by omega)
    have h2 := wsum_last (row := row) (i := row.length / 2) e
    rw [List.take_of_length_le (by omega)] at h2
    rw [e, h2, ← h1]
    have e1 : ((2 * (row.length / 2) : Nat) : Int) % 2 = 0 := by omega
    show lsum row (2 * (row.length / 2)) + row.getD (2 * (row.length / 2)) 0 * ([256, 1] : List Int).getD (((2 * (row.length / 2) : Nat) : Int) % 2).toNat 0 = _
    rw [e1]
    show lsum row (2 * (row.length / 2)) + row.getD (2 * (row.length / 2)) 0 * 256 = _
    omega
theorem wsum_nn : ∀ {row : List Int}, (∀ x ∈ row, 0 ≤ x ∧ x ≤ 255) → 0 ≤ wsum row
  | [], _ => by simp [wsum]
  | [a], h => by have := h a (by simp); simp only [wsum]; omega
  | a :: b :: r, h => by
    have h1 := h a (by simp)
    have h2 := h b (by simp)
    have h3 := wsum_nn (row := r) (fun x hx => h x (by simp [hx]))
    simp only [wsum]; omega
theorem wsum_app : ∀ {row : List Int} (x y : List Int), row.length % 2 = 0 → wsum (row ++ x) = wsum row + wsum x
  | [], x, y, _ => by simp [wsum]
  | [a], x, y, h => by simp at h
  | a :: b :: r, x, y, h => by
    have := wsum_app (row := r) x y (by simp only [List.length_cons] at h; omega)
    simp only [List.cons_append, wsum, this]; omega
theorem wsum_pad : ∀ {row : List Int}, row.length % 2 = 1 → wsum (row ++ [0]) = wsum row
  | [], h => by simp at h
  | [a], h => by simp [wsum]
  | a :: b :: r, h => by
    have := wsum_pad (row := r) (by simp only [List.length_cons] at h; omega)
    simp only [List.cons_append, wsum, this]
theorem fold_range {t : Int} (h : 0 ≤ t) : 0 ≤ fold t ∧ fold t ≤ 65535 ∧ (fold t - t) % 65535 = 0 ∧ (fold t = 0 ↔ t = 0) := by
  unfold fold
  split
  · refine ⟨h, by omega, by omega, by omega⟩
  · refine ⟨by omega, by omega, by omega, by omega⟩
theorem fold_whole {t : Int} (h : 0 ≤ t) : fold (t + (65535 - fold t)) = 65535 := by
  obtain ⟨h1, h2, h3, h4⟩ := fold_range h
  have h5 : 0 ≤ t + (65535 - fold t) := by omega
  obtain ⟨g1, g2, g3, g4⟩ := fold_range h5
  have : fold (t + (65535 - fold t)) ≠ 0 := by
    intro e
    have := g4.mp e
    omega
  omega
end M

/-! A logic over data and things owned: what stands still is data; what changes is owned. -/
namespace Lg
open PySem PySem.Spec PyProof.Rows L2 Wr
/-! ### data -/
inductive Da where
  | non
  | bl (b : Bool)
  | int (n : Int)
  | str (s : Str)
  | list (l : List Da)
  | tup (l : List Da)
  | scr (l : List Int)
  | ref (a : Addr)
mutual
def Dv (K : PySem.W.Frag) (F : Hp) : Da → V → Prop
  | .non, v => v = .non
  | .bl b, v => v = .bl b
  | .int n, v => v = .int n
  | .str s, v => v = .str s
  | .list l, v => ∃ a xs, v = .ref a ∧ F a = some (.lst xs) ∧ DvAll K F l xs
  | .tup l, v => ∃ a xs, v = .ref a ∧ SqT K F a xs ∧ DvAll K F l xs
  | .scr l, v => ∃ a, v = .ref a ∧ SqL K F a (l.map V.int)
  | .ref a, v => v = .ref a
def DvAll (K : PySem.W.Frag) (F : Hp) : List Da → List V → Prop
  | [], xs => xs = []
  | d :: l, xs => ∃ v vs, xs = v :: vs ∧ Dv K F d v ∧ DvAll K F l vs
end
mutual
theorem Dv.mono {K : PySem.W.Frag} {F F' : Hp} (x : Sub F F') : ∀ (d : Da) (v : V), Dv K F d v → Dv K F' d v
  | .non, _, h => h
  | .bl _, _, h => h
  | .int _, _, h => h
  | .str _, _, h => h
  | .list l, _, ⟨a, xs, e, h, r⟩ => ⟨a, xs, e, x _ _ h, DvAll.mono x l xs r⟩
  | .tup l, _, ⟨a, xs, e, h, r⟩ => ⟨a, xs, e, sqt_up x h, DvAll.mono x l xs r⟩
  | .scr l, _, ⟨a, e, h⟩ => ⟨a, e, sql_up x h⟩
  | .ref _, _, h => h
theorem DvAll.mono {K : PySem.W.Frag} {F F' : Hp} (x : Sub F F') : ∀ (l : List Da) (xs : List V), DvAll K F l xs → DvAll K F' l xs
  | [], _, h => h
  | d :: l, _, ⟨v, vs, e, h, r⟩ => ⟨v, vs, e, Dv.mono x d v h, DvAll.mono x l vs r⟩
end
def li (xs : List Int) : Da := .list (xs.map Da.int)
def ti (xs : List Int) : Da := .tup (xs.map Da.int)
def sg (s : M.Seg) : Da := .tup [.int s.src, .int s.goal, .int s.num, .int s.ans, .int s.flags, .int s.win, .int s.most, ti s.data]
section
variable {K : PySem.W.Frag} {F F' : Hp}
theorem dvAll_int : ∀ {ns : List Int} {xs : List V}, DvAll K F (ns.map Da.int) xs ↔ xs = ns.map V.int
  | [], _ => Iff.rfl
  | n :: ns, xs => by
    constructor
    · rintro ⟨v, vs, rfl, h1, h2⟩
      rw [show v = V.int n from h1, dvAll_int.mp h2]; rfl
    · rintro rfl
      exact ⟨_, _, rfl, rfl, dvAll_int.mpr rfl⟩
theorem dvAll_len : ∀ {l : List Da} {xs : List V}, DvAll K F l xs → xs.length = l.length
  | [], _, h => by rw [show _ = [] from h]; rfl
  | d :: l, _, ⟨v, vs, e, _, r⟩ => by rw [e, List.length_cons, List.length_cons, dvAll_len r]
theorem dvAll_get : ∀ {l : List Da} {xs : List V} {i : Nat} {d : Da}, DvAll K F l xs → l[i]? = some d → ∃ v, xs[i]? = some v ∧ Dv K F d v
  | [], _, i, d, _, e => by simp at e
  | d0 :: l, _, 0, d, ⟨v, vs, e, h, r⟩, q => by
    have : d0 = d := by simpa using q
    subst this
    exact ⟨v, by rw [e]; rfl, h⟩
  | d0 :: l, _, i + 1, d, ⟨v, vs, e, h, r⟩, q => by
    obtain ⟨w, h1, h2⟩ := dvAll_get (i := i) (d := d) r (by simpa using q)
    exact ⟨w, by rw [e]; simpa using h1, h2⟩
theorem dvAll_app : ∀ {l m : List Da} {xs ys : List V}, DvAll K F l xs → DvAll K F m ys → DvAll K F (l ++ m) (xs ++ ys)
  | [], _, _, _, h, h2 => by rw [show _ = [] from h]; exact h2
  | d :: l, m, _, ys, ⟨v, vs, e, h, r⟩, h2 => ⟨v, vs ++ ys, by rw [e]; rfl, h, dvAll_app r h2⟩
theorem dvAll_take : ∀ {l : List Da} {xs : List V} (n : Nat), DvAll K F l xs → DvAll K F (l.take n) (xs.take n)
  | [], _, n, h => by rw [show _ = [] from h, List.take_nil, List.take_nil]; exact rfl
  | d :: l, _, 0, h => by rw [List.take_zero, List.take_zero]; exact rfl
  | d :: l, _, n + 1, ⟨v, vs, e, h, r⟩ => by rw [e]; exact ⟨v, vs.take n, rfl, h, dvAll_take n r⟩
theorem dvAll_drop : ∀ {l : List Da} {xs : List V} (n : Nat), DvAll K F l xs → DvAll K F (l.drop n) (xs.drop n)
  | [], _, n, h => by rw [show _ = [] from h, List.drop_nil, List.drop_nil]; exact rfl
  | d :: l, _, 0, h => h
  | d :: l, _, n + 1, ⟨v, vs, e, h, r⟩ => by rw [e]; exact dvAll_drop n r
theorem dv_li {ns : List Int} {v : V} (h : Dv K F (li ns) v) : ∃ a, v = .ref a ∧ F a = some (.lst (ns.map V.int)) := by
  obtain ⟨a, xs, e, h1, h2⟩ := h
  rw [dvAll_int.mp h2] at h1
  exact ⟨a, e, h1⟩
theorem dv_li_mk {ns : List Int} {a : Addr} (h : F a = some (.lst (ns.map V.int))) : Dv K F (li ns) (.ref a) := ⟨a, _, rfl, h, dvAll_int.mpr rfl⟩
theorem dv_sg {s : M.Seg} {v : V} (h : Dv K F (sg s) v) : ∃ a, v = .ref a ∧ SegOk K a s F := by
  obtain ⟨a, xs, e, h1, v1, x1, rfl, e1, v2, x2, rfl, e2, v3, x3, rfl, e3, v4, x4, rfl, e4, v5, x5, rfl, e5, v6, x6, rfl, e6, v7, x7, rfl, e7, v8, x8, rfl, ⟨d, ys, rfl, h2, h3⟩, rfl⟩ := h
  rw [dvAll_int.mp h3] at h2
  refine ⟨a, e, d, ?_, h2⟩
  unfold segVs
  rw [← show v1 = _ from e1, ← show v2 = _ from e2, ← show v3 = _ from e3, ← show v4 = _ from e4, ← show v5 = _ from e5, ← show v6 = _ from e6, ← show v7 = _ from e7]
  exact h1
theorem dv_sg_mk {s : M.Seg} {a : Addr} (h : SegOk K a s F) : Dv K F (sg s) (.ref a) := by
  obtain ⟨d, h1, h2⟩ := h
  exact ⟨a, _, rfl, h1, _, _, rfl, rfl, _, _, rfl, rfl, _, _, rfl, rfl, _, _, rfl, rfl, _, _, rfl, rfl, _, _, rfl, rfl, _, _, rfl, rfl, _, _, rfl, ⟨d, _, rfl, h2, dvAll_int.mpr rfl⟩, rfl⟩
end
/-! ### locals and things owned -/
/-- the locals as data (none: not assigned, or forgotten) -/
def Vs (K : PySem.W.Frag) (F : Hp) (σ : L2.St) (ds : List (Option Da)) : Prop := σ.length = ds.length ∧ ∀ (i : Nat) (d : Da), ds[i]? = some (some d) → ∃ v, σ[i]? = some (some v) ∧ Dv K F d v
structure Rs where
  ck : Hp → Ck
  mo : ∀ F F' H, Sub F F' → (ck F).ok H → (ck F').ok H
def fz (F : Hp) : Ck := ⟨fun H => Sub F H, fun _ _ s h => h.trans s⟩
def Ow (F : Hp) (rs : List Rs) (H : Hp) : Prop := Own (fz F :: rs.map fun r => r.ck F) H
section
variable {K : PySem.W.Frag} {F F' H H' : Hp} {σ : L2.St} {ds : List (Option Da)} {rs rs' : List Rs}
theorem Vs.mono (x : Sub F F') (h : Vs K F σ ds) : Vs K F' σ ds := ⟨h.1, fun i d e => by
  obtain ⟨v, h1, h2⟩ := h.2 i d e
  exact ⟨v, h1, Dv.mono x d v h2⟩⟩
theorem Vs.set {i : Nat} {d : Da} {v : V} (h : Vs K F σ ds) (hd : Dv K F d v) : Vs K F (σ.set i (some v)) (ds.set i (some d)) := by
  refine ⟨by rw [List.length_set, List.length_set]; exact h.1, fun j d' e => ?_⟩
  by_cases hj : i = j
  · subst hj
    by_cases hi : i < ds.length
    · rw [List.getElem?_set_self hi] at e
      obtain rfl := Option.some.inj (Option.some.inj e)
      exact ⟨v, List.getElem?_set_self (by rw [h.1]; exact hi), hd⟩
    · rw [List.getElem?_eq_none (by rw [List.length_set]; omega)] at e; cases e
  · rw [List.getElem?_set_ne hj] at e
    obtain ⟨w, h1, h2⟩ := h.2 j d' e
    exact ⟨w, by rw [List.getElem?_set_ne hj]; exact h1, h2⟩
theorem ow_sub (o : Ow F rs H) : Sub F H := own_head (c := fz F) o
theorem ow_up (s : Sub H H') (o : Ow F rs H) : Ow F rs H' := own_up s o
theorem own_mo (x : Sub F F') : ∀ {rs : List Rs} {H : Hp}, Own (rs.map fun r => r.ck F) H → Own (rs.map fun r => r.ck F') H
  | [], _, _ => trivial
  | r :: rs, _, ⟨H1, H2, s1, s2, d, e, f⟩ => ⟨H1, H2, s1, s2, d, r.mo _ _ _ x e, own_mo x f⟩
/-- a new object stands still from now on -/
theorem ow_new {a : Addr} {u : HO} (o : Ow F rs H) (n : H a = none) : Ow (upd F a u) rs (upd H a u) ∧ Sub F (upd F a u) := by
  have nF : F a = none := (ow_sub o).none n
  have x : Sub F (upd F a u) := fun b v q => by
    have hb : b ≠ a := fun z => by rw [z, nF] at q; cases q
    rw [upd_ne hb]; exact q
  refine ⟨?_, x⟩
  obtain ⟨H1, H2, s1, s2, d, e, f⟩ := o
  have n1 : H1 a = none := s1.none n
  have n2 : H2 a = none := s2.none n
  refine ⟨upd H1 a u, H2, fun b v q => ?_, fun b v q => ?_, fun b => ?_, fun b v q => ?_, own_mo x f⟩
  · by_cases hb : b = a
    · subst hb; rw [upd_same] at q ⊢; exact q
    · rw [upd_ne hb] at q ⊢; exact s1 b v q
  · have hb : b ≠ a := fun z => by rw [z, n2] at q; cases q
    rw [upd_ne hb]; exact s2 b v q
  · by_cases hb : b = a
    · subst hb; exact .inr n2
    · rw [upd_ne hb]; exact d b
  · by_cases hb : b = a
    · subst hb; rw [upd_same] at q ⊢; exact q
    · rw [upd_ne hb] at q ⊢; exact e b v q
/-- an owned object stands still from now on -/
theorem ow_freeze {a : Addr} {u : HO} {cs : List Ck} (o : Own (pt a u :: fz F :: rs.map fun r => r.ck F) H) : Ow (upd F a u) rs H ∧ Sub F (upd F a u) := by
  obtain ⟨A, B, sA, sB, dAB, eA, B1, B2, s1, s2, d, e, f⟩ := o
  have hA := pt_ok.mp eA
  have nB : B a = none := by
    rcases dAB a with q | q
    · rw [hA] at q; cases q
    · exact q
  have nF : F a = none := (show Sub F B1 from e).none (s1.none nB)
  have x : Sub F (upd F a u) := fun b v q => by
    have hb : b ≠ a := fun z => by rw [z, nF] at q; cases q
    rw [upd_ne hb]; exact q
  refine ⟨⟨upd B1 a u, B2, fun b v q => ?_, s2.trans sB, fun b => ?_, fun b v q => ?_, own_mo x f⟩, x⟩
  · by_cases hb : b = a
    · subst hb; rw [upd_same] at q; rw [← q]; exact sA _ _ hA
    · rw [upd_ne hb] at q; exact sB b v (s1 b v q)
  · by_cases hb : b = a
    · subst hb; exact .inr (s2.none nB)
    · rw [upd_ne hb]; exact d b
  · by_cases hb : b = a
    · subst hb; rw [upd_same] at q ⊢; exact q
    · rw [upd_ne hb] at q ⊢; exact e b v q
end
/-! ### evaluation -/
def Ev (K : PySem.W.Frag) (rs : List Rs) (t : TE) (ds : List (Option Da)) (d : Da) (rs' : List Rs) : Prop :=
  ∀ σ F H, Vs K F σ ds → Ow F rs H → ∀ Q : VK, (∀ v F' H', Sub F F' → Dv K F' d v → Ow F' rs' H' → Q v H') → t σ H Q
def EvT (K : PySem.W.Frag) (rs : List Rs) (t : TT) (ds : List (Option Da)) (b : Bool) (rs' : List Rs) : Prop :=
  ∀ σ F H, Vs K F σ ds → Ow F rs H → ∀ Q : Bool → Hp → Prop, (∀ F' H', Sub F F' → Ow F' rs' H' → Q b H') → t σ H Q
def EvA (K : PySem.W.Frag) (rs : List Rs) (t : TA) (ds : List (Option Da)) (l : List Da) (rs' : List Rs) : Prop :=
  ∀ σ F H, Vs K F σ ds → Ow F rs H → ∀ Q : List V → Hp → Prop, (∀ vs F' H', Sub F F' → DvAll K F' l vs → Ow F' rs' H' → Q vs H') → t σ H Q
section
variable {K : PySem.W.Frag} {ds : List (Option Da)} {rs rs1 rs2 rs3 : List Rs} {ta tb tc te : TE} {t u : TT} {d d1 d2 : Da} {i j k : Int} {b b1 b2 : Bool}
theorem var {n : Nat} (h : ds[n]? = some (some d)) : Ev K rs (tVar n) ds d rs := fun σ F H vs o Q q => by
  obtain ⟨v, h1, h2⟩ := vs.2 n d h
  exact ⟨v, h1, q v F H (Sub.refl F) h2 o⟩
theorem cInt : Ev K rs (tC (.int i)) ds (.int i) rs := fun σ F H vs o Q q => q _ F H (Sub.refl F) rfl o
theorem cBl : Ev K rs (tC (.bl b)) ds (.bl b) rs := fun σ F H vs o Q q => q _ F H (Sub.refl F) rfl o
theorem cStr {z : Str} : Ev K rs (tC (.str z)) ds (.str z) rs := fun σ F H vs o Q q => q _ F H (Sub.refl F) rfl o
theorem cNon : Ev K rs (tC .non) ds .non rs := fun σ F H vs o Q q => q _ F H (Sub.refl F) rfl o
theorem cTy {n : String} {Q0 : Prop} : Ev K rs (tC (.int i)) ds (.int i) rs := cInt
/-- two operands -/
theorem op {r : R2} (ha : Ev K rs ta ds d1 rs1) (hb : Ev K rs1 tb ds d2 rs2) (hr : ∀ x y F H, Dv K F d1 x → Dv K F d2 y → Ow F rs2 H → ∀ Q : VK, (∀ v F' H', Sub F F' → Dv K F' d v → Ow F' rs3 H' → Q v H') → r x y H Q) : Ev K rs (tOp r ta tb) ds d rs3 := fun σ F H vs o Q q =>
  ha σ F H vs o _ fun x F1 H1 s1 dx o1 => hb σ F1 H1 (vs.mono s1) o1 _ fun y F2 H2 s2 dy o2 => hr x y F2 H2 (Dv.mono s2 _ _ dx) dy o2 Q fun v F3 H3 s3 => q v F3 H3 ((s1.trans s2).trans s3)
theorem iI {f : Int → Int → Int} (ha : Ev K rs ta ds (.int i) rs1) (hb : Ev K rs1 tb ds (.int j) rs2) : Ev K rs (tOp (rI0 fun i j => .int (f i j)) ta tb) ds (.int (f i j)) rs2 :=
  op ha hb fun x y F H hx hy o Q q => ⟨i, j, hx, hy, q _ F H (Sub.refl F) rfl o⟩
theorem iB {f : Int → Int → Bool} (ha : Ev K rs ta ds (.int i) rs1) (hb : Ev K rs1 tb ds (.int j) rs2) : Ev K rs (tOp (rI0 fun i j => .bl (f i j)) ta tb) ds (.bl (f i j)) rs2 :=
  op ha hb fun x y F H hx hy o Q q => ⟨i, j, hx, hy, q _ F H (Sub.refl F) rfl o⟩
theorem iC {C : Int → Int → Prop} {f : Int → Int → Int} (hc : C i j) (ha : Ev K rs ta ds (.int i) rs1) (hb : Ev K rs1 tb ds (.int j) rs2) : Ev K rs (tOp (rI C fun i j => .int (f i j)) ta tb) ds (.int (f i j)) rs2 :=
  op ha hb fun x y F H hx hy o Q q => ⟨i, j, hx, hy, hc, q _ F H (Sub.refl F) rfl o⟩
theorem eqI (ha : Ev K rs ta ds (.int i) rs1) (hb : Ev K rs1 tb ds (.int j) rs2) : Ev K rs (tOp rEq ta tb) ds (.bl (decide (i = j))) rs2 :=
  op ha hb fun x y F H hx hy o Q q => by rw [show x = _ from hx, show y = _ from hy]; exact ⟨rfl, q _ F H (Sub.refl F) (congrArg V.bl dec_V) o⟩
theorem neI (ha : Ev K rs ta ds (.int i) rs1) (hb : Ev K rs1 tb ds (.int j) rs2) : Ev K rs (tOp rNe ta tb) ds (.bl (!decide (i = j))) rs2 :=
  op ha hb fun x y F H hx hy o Q q => by rw [show x = _ from hx, show y = _ from hy]; exact ⟨rfl, q _ F H (Sub.refl F) (congrArg V.bl (congrArg (!·) dec_V)) o⟩
theorem eqS {x y : Str} (ha : Ev K rs ta ds (.str x) rs1) (hb : Ev K rs1 tb ds (.str y) rs2) : Ev K rs (tOp rEq ta tb) ds (.bl (decide (x = y))) rs2 :=
  op ha hb fun x y F H hx hy o Q q => by rw [show x = _ from hx, show y = _ from hy]; exact ⟨rfl, q _ F H (Sub.refl F) (congrArg V.bl dec_S) o⟩
theorem neS {x y : Str} (ha : Ev K rs ta ds (.str x) rs1) (hb : Ev K rs1 tb ds (.str y) rs2) : Ev K rs (tOp rNe ta tb) ds (.bl (!decide (x = y))) rs2 :=
  op ha hb fun x y F H hx hy o Q q => by rw [show x = _ from hx, show y = _ from hy]; exact ⟨rfl, q _ F H (Sub.refl F) (congrArg V.bl (congrArg (!·) dec_S)) o⟩
theorem eqB (ha : Ev K rs ta ds (.bl b1) rs1) (hb : Ev K rs1 tb ds (.bl b2) rs2) : Ev K rs (tOp rEq ta tb) ds (.bl (decide (b1 = b2))) rs2 :=
  op ha hb fun x y F H hx hy o Q q => by rw [show x = _ from hx, show y = _ from hy]; exact ⟨rfl, q _ F H (Sub.refl F) (congrArg V.bl dec_B) o⟩
theorem neB (ha : Ev K rs ta ds (.bl b1) rs1) (hb : Ev K rs1 tb ds (.bl b2) rs2) : Ev K rs (tOp rNe ta tb) ds (.bl (!decide (b1 = b2))) rs2 :=
  op ha hb fun x y F H hx hy o Q q => by rw [show x = _ from hx, show y = _ from hy]; exact ⟨rfl, q _ F H (Sub.refl F) (congrArg V.bl (congrArg (!·) dec_B)) o⟩
theorem un {r : V → Hp → VK → Prop} (ha : Ev K rs ta ds d1 rs1) (hr : ∀ x F H, Dv K F d1 x → Ow F rs1 H → ∀ Q : VK, (∀ v F' H', Sub F F' → Dv K F' d v → Ow F' rs2 H' → Q v H') → r x H Q) : Ev K rs (tUn r ta) ds d rs2 := fun σ F H vs o Q q =>
  ha σ F H vs o _ fun x F1 H1 s1 dx o1 => hr x F1 H1 dx o1 Q fun v F3 H3 s3 => q v F3 H3 (s1.trans s3)
theorem neg (ha : Ev K rs ta ds (.int i) rs1) : Ev K rs (tUn (rU fun i => .int (-i)) ta) ds (.int (-i)) rs1 := un ha fun x F H hx o Q q => ⟨i, hx, q _ F H (Sub.refl F) rfl o⟩
theorem is_ {d' : Da} (h : Ev K rs te ds d rs1) (e : d = d') : Ev K rs te ds d' rs1 := e ▸ h
theorem isT {b' : Bool} (h : EvT K rs t ds b rs1) (e : b = b') : EvT K rs t ds b' rs1 := e ▸ h
/-- a <= b <= c -/
theorem ch {f g : Int → Int → Bool} (ha : Ev K rs ta ds (.int i) rs) (hb : Ev K rs tb ds (.int j) rs) (hc : Ev K rs tc ds (.int k) rs) : Ev K rs (tChain (rI0 fun i j => .bl (f i j)) (rI0 fun i j => .bl (g i j)) ta tb tc) ds (.bl (f i j && g j k)) rs := fun σ F H vs o Q q =>
  ha σ F H vs o _ fun x F1 H1 s1 dx o1 => hb σ F1 H1 (vs.mono s1) o1 _ fun y F2 H2 s2 dy o2 => by
    refine ⟨i, j, dx, dy, f i j, rfl, ?_⟩
    cases h : f i j with
    | true =>
      rw [if_pos rfl]
      refine hc σ F2 H2 (vs.mono (s1.trans s2)) o2 _ fun z F3 H3 s3 dz o3 => ⟨j, k, dy, dz, q _ F3 H3 ((s1.trans s2).trans s3) ?_ o3⟩
      show V.bl _ = V.bl _
      rw [h, Bool.true_and]
    | false =>
      rw [if_neg Bool.false_ne_true]
      refine q _ F2 H2 (s1.trans s2) ?_ o2
      show V.bl _ = V.bl _
      rw [h, Bool.false_and]
/-! tests -/
theorem tst (h : Ev K rs te ds (.bl b) rs1) : EvT K rs (tTest te) ds b rs1 := fun σ F H vs o Q q => h σ F H vs o _ fun v F1 H1 s1 dx o1 => ⟨b, dx, q F1 H1 s1 o1⟩
theorem tstB (h : Ev K rs te ds (.bl b) rs1) : EvT K rs (tB te) ds b rs1 := fun σ F H vs o Q q => h σ F H vs o _ fun v F1 H1 s1 dx o1 => ⟨b, dx, q F1 H1 s1 o1⟩
theorem tAnd_ (h1 : EvT K rs t ds b1 rs) (h2 : b1 = true → EvT K rs u ds b2 rs) : EvT K rs (tAnd t u) ds (b1 && b2) rs := fun σ F H vs o Q q => h1 σ F H vs o _ fun F1 H1 s1 o1 => by
  cases h : b1 with
  | true =>
    rw [if_pos rfl]
    rw [h] at q
    exact h2 h σ F1 H1 (vs.mono s1) o1 Q fun F2 H2 s2 o2 => q F2 H2 (s1.trans s2) o2
  | false =>
    rw [if_neg Bool.false_ne_true]
    rw [h] at q
    exact q F1 H1 s1 o1
theorem tOr_ (h1 : EvT K rs t ds b1 rs) (h2 : b1 = false → EvT K rs u ds b2 rs) : EvT K rs (tOr t u) ds (b1 || b2) rs := fun σ F H vs o Q q => h1 σ F H vs o _ fun F1 H1 s1 o1 => by
  cases h : b1 with
  | true =>
    rw [if_pos rfl]
    rw [h] at q
    exact q F1 H1 s1 o1
  | false =>
    rw [if_neg Bool.false_ne_true]
    rw [h] at q
    exact h2 h σ F1 H1 (vs.mono s1) o1 Q fun F2 H2 s2 o2 => q F2 H2 (s1.trans s2) o2
theorem tNot_ (h1 : EvT K rs t ds b rs1) : EvT K rs (tNot t) ds (!b) rs1 := fun σ F H vs o Q q => h1 σ F H vs o _ fun F1 H1 s1 o1 => q F1 H1 s1 o1
theorem andV (h1 : Ev K rs ta ds (.bl b1) rs) (h2 : b1 = true → Ev K rs tb ds (.bl b2) rs) : Ev K rs (tAndV ta tb) ds (.bl (b1 && b2)) rs := fun σ F H vs o Q q => h1 σ F H vs o _ fun v F1 H1 s1 dx o1 => by
  refine ⟨b1, dx, ?_⟩
  cases h : b1 with
  | true =>
    rw [if_pos rfl]
    rw [h] at q
    exact h2 h σ F1 H1 (vs.mono s1) o1 Q fun v F2 H2 s2 => q v F2 H2 (s1.trans s2)
  | false =>
    rw [if_neg Bool.false_ne_true]
    rw [h] at q
    exact q _ F1 H1 s1 rfl o1
theorem orV (h1 : Ev K rs ta ds (.bl b1) rs) (h2 : b1 = false → Ev K rs tb ds (.bl b2) rs) : Ev K rs (tOrV ta tb) ds (.bl (b1 || b2)) rs := fun σ F H vs o Q q => h1 σ F H vs o _ fun v F1 H1 s1 dx o1 => by
  refine ⟨b1, dx, ?_⟩
  cases h : b1 with
  | true =>
    rw [if_pos rfl]
    rw [h] at q
    exact q _ F1 H1 s1 rfl o1
  | false =>
    rw [if_neg Bool.false_ne_true]
    rw [h] at q
    exact h2 h σ F1 H1 (vs.mono s1) o1 Q fun v F2 H2 s2 => q v F2 H2 (s1.trans s2)
theorem notV (h1 : Ev K rs ta ds (.bl b) rs1) : Ev K rs (tNotV ta) ds (.bl (!b)) rs1 := fun σ F H vs o Q q => h1 σ F H vs o _ fun v F1 H1 s1 dx o1 => ⟨b, dx, q _ F1 H1 s1 rfl o1⟩
theorem ife (h : EvT K rs t ds b rs) (h1 : b = true → Ev K rs ta ds d1 rs1) (h2 : b = false → Ev K rs tb ds d2 rs1) : Ev K rs (tIf t ta tb) ds (if b = true then d1 else d2) rs1 := fun σ F H vs o Q q => h σ F H vs o _ fun F1 H1 s1 o1 => by
  cases e : b with
  | true =>
    rw [if_pos rfl]
    rw [e] at q
    rw [if_pos rfl] at q
    exact h1 e σ F1 H1 (vs.mono s1) o1 Q fun v F2 H2 s2 => q v F2 H2 (s1.trans s2)
  | false =>
    rw [if_neg Bool.false_ne_true]
    rw [e] at q
    rw [if_neg Bool.false_ne_true] at q
    exact h2 e σ F1 H1 (vs.mono s1) o1 Q fun v F2 H2 s2 => q v F2 H2 (s1.trans s2)
theorem ifeI (h : EvT K rs t ds b rs) (h1 : b = true → Ev K rs ta ds (.int i) rs1) (h2 : b = false → Ev K rs tb ds (.int j) rs1) : Ev K rs (tIf t ta tb) ds (.int (if b = true then i else j)) rs1 :=
  is_ (ife h h1 h2) (by split <;> rfl)
theorem truL {l : List Da} (h : Ev K rs te ds (.list l) rs1) : EvT K rs (fun σ H Q => te σ H fun x H' => ∃ k, TruV K x H' k ∧ Q k H') ds (!l.isEmpty) rs1 := fun σ F H vs o Q q => h σ F H vs o _ fun v F1 H1 s1 dx o1 => by
  obtain ⟨a, xs, rfl, h1, h2⟩ := dx
  refine ⟨_, .inl ⟨xs, .inl (.inl (ow_sub o1 _ _ h1)), rfl⟩, ?_⟩
  have e : xs.isEmpty = l.isEmpty := by
    have := dvAll_len h2
    cases xs <;> cases l <;> first | rfl | (simp at this)
  rw [e]
  exact q F1 H1 s1 o1
theorem truLi {l : List Int} (h : Ev K rs te ds (li l) rs1) : EvT K rs (fun σ H Q => te σ H fun x H' => ∃ k, TruV K x H' k ∧ Q k H') ds (!l.isEmpty) rs1 := isT (truL h) (by cases l <;> rfl)
theorem truS {l : List Int} (h : Ev K rs te ds (.scr l) rs1) : EvT K rs (fun σ H Q => te σ H fun x H' => ∃ k, TruV K x H' k ∧ Q k H') ds (!l.isEmpty) rs1 := fun σ F H vs o Q q => h σ F H vs o _ fun v F1 H1 s1 dx o1 => by
  obtain ⟨a, rfl, h1⟩ := dx
  refine ⟨_, .inl ⟨_, sql_up (ow_sub o1) h1, rfl⟩, ?_⟩
  rw [show (l.map V.int).isEmpty = l.isEmpty by cases l <;> rfl]
  exact q F1 H1 s1 o1
theorem truT {l : List Da} (h : Ev K rs te ds (.tup l) rs1) : EvT K rs (fun σ H Q => te σ H fun x H' => ∃ k, TruV K x H' k ∧ Q k H') ds (!l.isEmpty) rs1 := fun σ F H vs o Q q => h σ F H vs o _ fun v F1 H1 s1 dx o1 => by
  obtain ⟨a, xs, rfl, h1, h2⟩ := dx
  refine ⟨_, .inr (.inl ⟨xs, sqt_up (ow_sub o1) h1, rfl⟩), ?_⟩
  have e : xs.isEmpty = l.isEmpty := by
    have := dvAll_len h2
    cases xs <;> cases l <;> first | rfl | (simp at this)
  rw [e]
  exact q F1 H1 s1 o1
theorem truTi {l : List Int} (h : Ev K rs te ds (ti l) rs1) : EvT K rs (fun σ H Q => te σ H fun x H' => ∃ k, TruV K x H' k ∧ Q k H') ds (!l.isEmpty) rs1 := isT (truT h) (by cases l <;> rfl)
theorem truB (h : Ev K rs te ds (.bl b) rs1) : EvT K rs (fun σ H Q => te σ H fun x H' => ∃ k, TruV K x H' k ∧ Q k H') ds b rs1 := fun σ F H vs o Q q => h σ F H vs o _ fun v F1 H1 s1 dx o1 => by
  rw [show v = _ from dx]
  exact ⟨_, rfl, q F1 H1 s1 o1⟩
/-! arguments, displays -/
theorem nil_ : EvA K rs tNil ds [] rs := fun σ F H vs o Q q => q _ F H (Sub.refl F) rfl o
theorem cons_ {tr : TA} {l : List Da} (h : Ev K rs te ds d rs1) (hr : EvA K rs1 tr ds l rs2) : EvA K rs (tCons te tr) ds (d :: l) rs2 := fun σ F H vs o Q q =>
  h σ F H vs o _ fun v F1 H1 s1 dx o1 => hr σ F1 H1 (vs.mono s1) o1 _ fun ws F2 H2 s2 dw o2 => q _ F2 H2 (s1.trans s2) ⟨v, ws, rfl, Dv.mono s2 _ _ dx, dw⟩ o2
theorem tup_ {ta : TA} {l : List Da} (h : EvA K rs ta ds l rs1) (hz : l.length ≤ 100000) : Ev K rs (tTup ta) ds (.tup l) rs1 := fun σ F H vs o Q q =>
  h σ F H vs o _ fun ws F1 H1 s1 dw o1 => ⟨by rw [dvAll_len dw]; exact Evl.sz_of hz, fun p hp => by
    obtain ⟨o2, x⟩ := ow_new (u := .tup ws) o1 hp
    exact q _ _ _ (s1.trans x) ⟨p, ws, rfl, .inl (.inl upd_same), DvAll.mono x _ _ dw⟩ o2⟩
theorem list_ {ta : TA} {l : List Da} (h : EvA K rs ta ds l rs1) (hz : l.length ≤ 100000) : Ev K rs (tLst ta) ds (.list l) rs1 := fun σ F H vs o Q q =>
  h σ F H vs o _ fun ws F1 H1 s1 dw o1 => ⟨by rw [dvAll_len dw]; exact Evl.sz_of hz, fun p hp => by
    obtain ⟨o2, x⟩ := ow_new (u := .lst ws) o1 hp
    exact q _ _ _ (s1.trans x) ⟨p, ws, rfl, upd_same, DvAll.mono x _ _ dw⟩ o2⟩
theorem nilI : EvA K rs tNil ds (([] : List Int).map Da.int) rs := nil_
theorem consI {tr : TA} {l : List Int} (h : Ev K rs te ds (.int i) rs1) (hr : EvA K rs1 tr ds (l.map Da.int) rs2) : EvA K rs (tCons te tr) ds ((i :: l).map Da.int) rs2 := cons_ h hr
theorem listI {ta : TA} {l : List Int} (h : EvA K rs ta ds (l.map Da.int) rs1) (hz : l.length ≤ 100000) : Ev K rs (tLst ta) ds (li l) rs1 := list_ h (by rw [List.length_map]; exact hz)
theorem tupI {ta : TA} {l : List Int} (h : EvA K rs ta ds (l.map Da.int) rs1) (hz : l.length ≤ 100000) : Ev K rs (tTup ta) ds (ti l) rs1 := tup_ h (by rw [List.length_map]; exact hz)
/-! items -/
theorem ixT {l : List Da} {n : Nat} (h : Ev K rs ta ds (.tup l) rs1) (hi : Ev K rs1 tb ds (.int (n : Nat)) rs2) (hx : l[n]? = some d) : Ev K rs (tOp (rIxT K) ta tb) ds d rs2 :=
  op h hi fun x y F H hx1 hy o Q q => by
    obtain ⟨a, xs, rfl, h1, h2⟩ := hx1
    obtain ⟨v, g1, g2⟩ := dvAll_get h2 hx
    have hn : n < xs.length := (List.getElem?_eq_some_iff.mp g1).1
    refine ⟨a, xs, (n : Int), v, rfl, hy, sqt_up (ow_sub o) h1, ?_, q v F H (Sub.refl F) g2 o⟩
    unfold atI ixN
    rw [if_pos (Int.natCast_nonneg n), if_pos (by omega)]
    show xs[(n : Int).toNat]? = _
    rw [Int.toNat_natCast]; exact g1
theorem ixL {l : List Da} {n : Nat} (h : Ev K rs ta ds (.list l) rs1) (hi : Ev K rs1 tb ds (.int (n : Nat)) rs2) (hx : l[n]? = some d) : Ev K rs (tOp (rIxL K) ta tb) ds d rs2 :=
  op h hi fun x y F H hx1 hy o Q q => by
    obtain ⟨a, xs, rfl, h1, h2⟩ := hx1
    obtain ⟨v, g1, g2⟩ := dvAll_get h2 hx
    have hn : n < xs.length := (List.getElem?_eq_some_iff.mp g1).1
    refine ⟨a, xs, (n : Int), v, rfl, hy, .inl (.inl (ow_sub o _ _ h1)), ?_, q v F H (Sub.refl F) g2 o⟩
    unfold atI ixN
    rw [if_pos (Int.natCast_nonneg n), if_pos (by omega)]
    show xs[(n : Int).toNat]? = _
    rw [Int.toNat_natCast]; exact g1
theorem ixLi {l : List Int} (h : Ev K rs ta ds (li l) rs1) (hi : Ev K rs1 tb ds (.int i) rs2) (hx : 0 ≤ i ∧ i < l.length) : Ev K rs (tOp (rIxL K) ta tb) ds (.int (l.getD i.toNat 0)) rs2 := by
  obtain ⟨n, rfl⟩ : ∃ n : Nat, i = (n : Int) := ⟨i.toNat, by omega⟩
  refine ixL h hi ?_
  have h2 : n < l.length := by omega
  rw [List.getElem?_map, List.getElem?_eq_getElem h2, Int.toNat_natCast, List.getD_eq_getElem?_getD, List.getElem?_eq_getElem h2]
  rfl
theorem ixTi {l : List Int} (h : Ev K rs ta ds (ti l) rs1) (hi : Ev K rs1 tb ds (.int i) rs2) (hx : 0 ≤ i ∧ i < l.length) : Ev K rs (tOp (rIxT K) ta tb) ds (.int (l.getD i.toNat 0)) rs2 := by
  obtain ⟨n, rfl⟩ : ∃ n : Nat, i = (n : Int) := ⟨i.toNat, by omega⟩
  refine ixT h hi ?_
  have h2 : n < l.length := by omega
  rw [List.getElem?_map, List.getElem?_eq_getElem h2, Int.toNat_natCast, List.getD_eq_getElem?_getD, List.getElem?_eq_getElem h2]
  rfl
theorem ixSc {l : List Int} (h : Ev K rs ta ds (.scr l) rs1) (hi : Ev K rs1 tb ds (.int i) rs2) (hx : 0 ≤ i ∧ i < l.length) : Ev K rs (tOp (rIxL K) ta tb) ds (.int (l.getD i.toNat 0)) rs2 :=
  op h hi fun x y F H hx1 hy o Q q => by
    obtain ⟨a, rfl, h1⟩ := hx1
    exact ⟨a, _, i, _, rfl, hy, sql_up (ow_sub o) h1, atI_int hx.1 hx.2, q _ F H (Sub.refl F) rfl o⟩
/-! length -/
abbrev rLn (K : PySem.W.Frag) : List V → Hp → VK → Prop := fun xs H Q => ∃ p ys, xs = [.ref p] ∧ (SqL K H p ys ∨ SqT K H p ys) ∧ Q (.int ys.length) H
theorem cb {r : List V → Hp → VK → Prop} {ta : TA} {l : List Da} (h : EvA K rs ta ds l rs1) (hr : ∀ xs F H, DvAll K F l xs → Ow F rs1 H → ∀ Q : VK, (∀ v F' H', Sub F F' → Dv K F' d v → Ow F' rs2 H' → Q v H') → r xs H Q) : Ev K rs (tCB r ta) ds d rs2 := fun σ F H vs o Q q =>
  h σ F H vs o _ fun xs F1 H1 s1 dx o1 => hr xs F1 H1 dx o1 Q fun v F2 H2 s2 => q v F2 H2 (s1.trans s2)
theorem lenL {l : List Da} (h : Ev K rs ta ds (.list l) rs1) : Ev K rs (tCB (rLn K) (tCons ta tNil)) ds (.int (l.length : Int)) rs1 := cb (cons_ h nil_) fun xs F H dx o Q q => by
  obtain ⟨v, vs, rfl, ⟨a, ys, rfl, h1, h2⟩, rfl⟩ := dx
  refine ⟨a, ys, rfl, .inl (.inl (.inl (ow_sub o _ _ h1))), ?_⟩
  rw [dvAll_len h2]
  exact q _ F H (Sub.refl F) rfl o
theorem lenT {l : List Da} (h : Ev K rs ta ds (.tup l) rs1) : Ev K rs (tCB (rLn K) (tCons ta tNil)) ds (.int (l.length : Int)) rs1 := cb (cons_ h nil_) fun xs F H dx o Q q => by
  obtain ⟨v, vs, rfl, ⟨a, ys, rfl, h1, h2⟩, rfl⟩ := dx
  refine ⟨a, ys, rfl, .inr (sqt_up (ow_sub o) h1), ?_⟩
  rw [dvAll_len h2]
  exact q _ F H (Sub.refl F) rfl o
theorem lenLi {l : List Int} (h : Ev K rs ta ds (li l) rs1) : Ev K rs (tCB (rLn K) (tCons ta tNil)) ds (.int (l.length : Int)) rs1 := is_ (lenL h) (by rw [List.length_map])
theorem lenTi {l : List Int} (h : Ev K rs ta ds (ti l) rs1) : Ev K rs (tCB (rLn K) (tCons ta tNil)) ds (.int (l.length : Int)) rs1 := is_ (lenT h) (by rw [List.length_map])
theorem lenSc {l : List Int} (h : Ev K rs ta ds (.scr l) rs1) : Ev K rs (tCB (rLn K) (tCons ta tNil)) ds (.int (l.length : Int)) rs1 := cb (cons_ h nil_) fun xs F H dx o Q q => by
  obtain ⟨v, vs, rfl, ⟨a, rfl, h1⟩, rfl⟩ := dx
  refine ⟨a, _, rfl, .inl (sql_up (ow_sub o) h1), ?_⟩
  rw [List.length_map]
  exact q _ F H (Sub.refl F) rfl o
/-! concatenation, slices -/
theorem catL {l m : List Da} (ha : Ev K rs ta ds (.list l) rs1) (hb : Ev K rs1 tb ds (.list m) rs2) (hz : l.length + m.length ≤ 100000) : Ev K rs (tOp rCat ta tb) ds (.list (l ++ m)) rs2 :=
  op ha hb fun x y F H hx hy o Q q => by
    obtain ⟨a, xs, rfl, h1, h2⟩ := hx
    obtain ⟨b, ys, rfl, h3, h4⟩ := hy
    refine ⟨a, b, xs, ys, rfl, rfl, ow_sub o _ _ h1, ow_sub o _ _ h3, by rw [dvAll_len h2, dvAll_len h4]; exact Evl.sz_of hz, fun p hp => ?_⟩
    obtain ⟨o2, x⟩ := ow_new (u := .lst (xs ++ ys)) o hp
    exact q _ _ _ x ⟨p, _, rfl, upd_same, DvAll.mono x _ _ (dvAll_app h2 h4)⟩ o2
theorem catLi {l m : List Int} (ha : Ev K rs ta ds (li l) rs1) (hb : Ev K rs1 tb ds (li m) rs2) (hz : l.length + m.length ≤ 100000) : Ev K rs (tOp rCat ta tb) ds (li (l ++ m)) rs2 :=
  is_ (catL ha hb (by rw [List.length_map, List.length_map]; exact hz)) (by unfold li; rw [List.map_append])
theorem catT {l m : List Da} (ha : Ev K rs ta ds (.tup l) rs1) (hb : Ev K rs1 tb ds (.tup m) rs2) (hz : l.length + m.length ≤ 100000) : Ev K rs (tOp (rCatA K) ta tb) ds (.tup (l ++ m)) rs2 :=
  op ha hb fun x y F H hx hy o Q q => by
    obtain ⟨a, xs, rfl, h1, h2⟩ := hx
    obtain ⟨b, ys, rfl, h3, h4⟩ := hy
    refine ⟨a, b, xs, ys, rfl, rfl, sqt_up (ow_sub o) h1, sqt_up (ow_sub o) h3, by rw [dvAll_len h2, dvAll_len h4]; exact Evl.sz_of hz, fun e => ?_, fun _ e => ?_, fun _ _ p hp => ?_⟩
    · subst e
      have : l = [] := by cases l with
        | nil => rfl
        | cons => have := dvAll_len h2; simp at this
      subst this
      exact q _ F H (Sub.refl F) ⟨b, ys, rfl, h3, h4⟩ o
    · subst e
      have : m = [] := by cases m with
        | nil => rfl
        | cons => have := dvAll_len h4; simp at this
      subst this
      rw [List.append_nil] at q
      exact q _ F H (Sub.refl F) ⟨a, xs, rfl, h1, h2⟩ o
    · obtain ⟨o2, x⟩ := ow_new (u := .tup (xs ++ ys)) o hp
      exact q _ _ _ x ⟨p, _, rfl, .inl (.inl upd_same), DvAll.mono x _ _ (dvAll_app h2 h4)⟩ o2
def EvO (K : PySem.W.Frag) (rs : List Rs) (t : TO) (ds : List (Option Da)) (o : Option Int) (rs' : List Rs) : Prop :=
  ∀ σ F H, Vs K F σ ds → Ow F rs H → ∀ Q : Option Int → Hp → Prop, (∀ F' H', Sub F F' → Ow F' rs' H' → Q o H') → t σ H Q
theorem oNo : EvO K rs tNoPart ds none rs := fun σ F H vs o Q q => q F H (Sub.refl F) o
theorem oYes (h : Ev K rs te ds (.int i) rs1) : EvO K rs (tPart te) ds (some i) rs1 := fun σ F H vs o Q q => h σ F H vs o _ fun v F1 H1 s1 dx o1 => ⟨i, dx, q F1 H1 s1 o1⟩
def cutD (l : List Da) (lo hi : Option Int) : List Da := (l.drop (HT.sIx l.length 0 lo)).take (HT.sIx l.length l.length hi - HT.sIx l.length 0 lo)
theorem cutD_int {l : List Int} {lo hi : Option Int} : cutD (l.map Da.int) lo hi = (M.sl l lo hi).map Da.int := by
  unfold cutD M.sl
  rw [List.length_map, List.map_take, List.map_drop]
theorem cutD_ok {F : Hp} {l : List Da} {xs : List V} {lo hi : Option Int} (h : DvAll K F l xs) : DvAll K F (cutD l lo hi) (cutV xs lo hi) := by
  unfold cutD cutV
  rw [dvAll_len h]
  exact dvAll_take _ (dvAll_drop _ h)
theorem slL {l : List Da} {tl th : TO} {lo hi : Option Int} (h : Ev K rs te ds (.list l) rs1) (h1 : EvO K rs1 tl ds lo rs2) (h2 : EvO K rs2 th ds hi rs3) : Ev K rs (tSl (rSlL K) te tl th) ds (.list (cutD l lo hi)) rs3 := fun σ F H vs o Q q =>
  h σ F H vs o _ fun v F1 H1 s1 dx o1 => h1 σ F1 H1 (vs.mono s1) o1 _ fun F2 H2 s2 o2 => h2 σ F2 H2 (vs.mono (s1.trans s2)) o2 _ fun F3 H3 s3 o3 => by
    obtain ⟨a, xs, rfl, h1, h2⟩ := Dv.mono (s2.trans s3) _ _ dx
    refine ⟨a, xs, rfl, .inl (.inl (ow_sub o3 _ _ h1)), fun p hp => ?_⟩
    obtain ⟨o4, x⟩ := ow_new (u := .lst (cutV xs lo hi)) o3 hp
    exact q _ _ _ (((s1.trans s2).trans s3).trans x) ⟨p, _, rfl, upd_same, DvAll.mono x _ _ (cutD_ok h2)⟩ o4
theorem slLi {l : List Int} {tl th : TO} {lo hi : Option Int} (h : Ev K rs te ds (li l) rs1) (h1 : EvO K rs1 tl ds lo rs2) (h2 : EvO K rs2 th ds hi rs3) : Ev K rs (tSl (rSlL K) te tl th) ds (li (M.sl l lo hi)) rs3 :=
  is_ (slL h h1 h2) (by unfold li; rw [cutD_int])
theorem slT {l : List Da} {tl th : TO} {lo hi : Option Int} (h : Ev K rs te ds (.tup l) rs1) (h1 : EvO K rs1 tl ds lo rs2) (h2 : EvO K rs2 th ds hi rs3) : Ev K rs (tSl (rSlA K) te tl th) ds (.tup (cutD l lo hi)) rs3 := fun σ F H vs o Q q =>
  h σ F H vs o _ fun v F1 H1 s1 dx o1 => h1 σ F1 H1 (vs.mono s1) o1 _ fun F2 H2 s2 o2 => h2 σ F2 H2 (vs.mono (s1.trans s2)) o2 _ fun F3 H3 s3 o3 => by
    obtain ⟨a, xs, rfl, h1, h2⟩ := Dv.mono (s2.trans s3) _ _ dx
    refine ⟨a, xs, rfl, sqt_up (ow_sub o3) h1, fun ⟨g1, g2⟩ => ?_, fun _ p hp => ?_⟩
    · refine q _ F3 H3 ((s1.trans s2).trans s3) ⟨a, xs, rfl, h1, ?_⟩ o3
      have e : cutD l lo hi = l := by
        unfold cutD
        rw [← dvAll_len h2, g1, g2, List.drop_zero, Nat.sub_zero, List.take_of_length_le (by rw [dvAll_len h2]; exact Nat.le_refl _)]
      rw [e]; exact h2
    · obtain ⟨o4, x⟩ := ow_new (u := .tup (cutV xs lo hi)) o3 hp
      exact q _ _ _ (((s1.trans s2).trans s3).trans x) ⟨p, _, rfl, .inl (.inl upd_same), DvAll.mono x _ _ (cutD_ok h2)⟩ o4
end
end Lg

namespace Lg
open PySem PySem.Spec PyProof.Rows L2 Wr
/-! ### statements -/
def G (K : PySem.W.Frag) (F0 : Hp) (t : TS) (D : Ends) (ds : List (Option Da)) (rs : List Rs) : Prop := ∀ σ F H, Sub F0 F → Vs K F σ ds → Ow F rs H → t D σ H
def Post (K : PySem.W.Frag) (F0 : Hp) (I : List (Option Da) → List Rs → Prop) : L2.St → Hp → Prop := fun σ H => ∃ ds rs F, Sub F0 F ∧ I ds rs ∧ Vs K F σ ds ∧ Ow F rs H
section
variable {K : PySem.W.Frag} {F0 : Hp} {D : Ends} {ds : List (Option Da)} {rs rs1 rs2 rs3 : List Rs} {ta : TA} {tb te tc : TE} {t u : TT} {tz tw tv : TS} {d : Da} {b : Bool} {n : Int} {ii : Nat}
theorem g_asg (h : Ev K rs te ds d rs1) (k : G K F0 tz D (ds.set ii (some d)) rs1) : G K F0 (tSeq (tAsg te (gName ii)) tz) D ds rs := fun σ F H s vs o =>
  h σ F H vs o _ fun v F1 H1 s1 dv o1 => k _ F1 H1 (s.trans s1) ((vs.mono s1).set dv) o1
theorem g_asg1 (h : Ev K rs te ds d rs1) (k : G K F0 tNext D (ds.set ii (some d)) rs1) : G K F0 (tAsg te (gName ii)) D ds rs := fun σ F H s vs o =>
  h σ F H vs o _ fun v F1 H1 s1 dv o1 => k _ F1 H1 (s.trans s1) ((vs.mono s1).set dv) o1
theorem g_drop (h : Ev K rs te ds d rs1) (k : G K F0 tz D ds rs1) : G K F0 (tSeq (tDrop te) tz) D ds rs := fun σ F H s vs o =>
  h σ F H vs o _ fun v F1 H1 s1 dv o1 => k _ F1 H1 (s.trans s1) (vs.mono s1) o1
theorem g_drop1 (h : Ev K rs te ds d rs1) (k : G K F0 tNext D ds rs1) : G K F0 (tDrop te) D ds rs := fun σ F H s vs o =>
  h σ F H vs o _ fun v F1 H1 s1 dv o1 => k _ F1 H1 (s.trans s1) (vs.mono s1) o1
theorem g_ret {Q : VK} (h : Ev K rs te ds d rs1) (hD : D.rt = Q) (k : ∀ v F H, Sub F0 F → Dv K F d v → Ow F rs1 H → Q v H) : G K F0 (tRet te) D ds rs := fun σ F H s vs o => by
  refine h σ F H vs o _ fun v F1 H1 s1 dv o1 => ?_
  rw [hD]
  exact k v F1 H1 (s.trans s1) dv o1
theorem g_retN {Q : VK} (hD : D.rt = Q) (k : ∀ v F H, Sub F0 F → Dv K F .non v → Ow F rs H → Q v H) : G K F0 tRetN D ds rs := fun σ F H s vs o => by
  show D.rt .non H
  rw [hD]
  exact k .non F H s rfl o
theorem g_if (h : EvT K rs t ds b rs1) (h1 : b = true → G K F0 tw { D with nx := tz D } ds rs1) (h2 : b = false → G K F0 tv { D with nx := tz D } ds rs1) : G K F0 (tSeq (tIfS t tw tv) tz) D ds rs := fun σ F H s vs o =>
  h σ F H vs o _ fun F1 H1 s1 o1 => by
    cases e : b with
    | true => rw [if_pos rfl]; exact h1 e σ F1 H1 (s.trans s1) (vs.mono s1) o1
    | false => rw [if_neg Bool.false_ne_true]; exact h2 e σ F1 H1 (s.trans s1) (vs.mono s1) o1
theorem g_if1 (h : EvT K rs t ds b rs1) (h1 : b = true → G K F0 tw D ds rs1) (h2 : b = false → G K F0 tv D ds rs1) : G K F0 (tIfS t tw tv) D ds rs := fun σ F H s vs o =>
  h σ F H vs o _ fun F1 H1 s1 o1 => by
    cases e : b with
    | true => rw [if_pos rfl]; exact h1 e σ F1 H1 (s.trans s1) (vs.mono s1) o1
    | false => rw [if_neg Bool.false_ne_true]; exact h2 e σ F1 H1 (s.trans s1) (vs.mono s1) o1
theorem g_when (h : EvT K rs t ds b rs1) (h1 : b = true → G K F0 tw { D with nx := tz D } ds rs1) (h2 : b = false → G K F0 tz D ds rs1) : G K F0 (tSeq (tIfS t tw tNext) tz) D ds rs := g_if h h1 h2
theorem g_when1 (h : EvT K rs t ds b rs1) (h1 : b = true → G K F0 tw D ds rs1) (h2 : b = false → G K F0 tNext D ds rs1) : G K F0 (tIfS t tw tNext) D ds rs := g_if1 h h1 h2
/-- if t: .. return .., where t is false -/
theorem g_no (h : EvT K rs t ds b rs1) (hb : b = false) (k : G K F0 tz D ds rs1) : G K F0 (tSeq (tIfS t tw tNext) tz) D ds rs := g_if h (fun e => by rw [hb] at e; cases e) fun _ => k
theorem g_next (k : G K F0 tz D ds rs) : G K F0 tNext { D with nx := tz D } ds rs := k
theorem g_post {I : List (Option Da) → List Rs → Prop} {D : Ends} (hD : D.nx = Post K F0 I) (h : I ds rs) : G K F0 tNext D ds rs := fun σ F H s vs o => by
  show D.nx σ H
  rw [hD]
  exact ⟨ds, rs, F, s, h, vs, o⟩
/-- a statement, then the rest, a word between -/
theorem g_cut (I : List (Option Da) → List Rs → Prop) (h : G K F0 tw { D with nx := Post K F0 I } ds rs) (k : ∀ ds rs, I ds rs → G K F0 tz D ds rs) : G K F0 (Evl.tCut tw tz) D ds rs := fun σ F H s vs o =>
  ⟨Post K F0 I, h σ F H s vs o, fun σ' H' ⟨ds', rs', F', s', hI, vs', o'⟩ => k ds' rs' hI σ' F' H' s' vs' o'⟩
/-- if t: x = e: only what is said of it -/
theorem g_ifV {α : Type} (f : α → Da) (P : α → Prop) (h : EvT K rs t ds b rs) (h1 : b = true → ∃ x, Ev K rs te ds (f x) rs ∧ P x) (h2 : b = false → ∃ x, ds[ii]? = some (some (f x)) ∧ P x)
    (k : ∀ x, P x → G K F0 tz D (ds.set ii (some (f x))) rs) : G K F0 (tSeq (tIfS t (tAsg te (gName ii)) tNext) tz) D ds rs := g_if h
  (fun e => by
    obtain ⟨x, hv, p⟩ := h1 e
    exact g_asg1 hv (g_next (k x p)))
  (fun e => by
    obtain ⟨x, hv, p⟩ := h2 e
    have z := k x p
    rw [show ds.set ii (some (f x)) = ds from by
      refine List.ext_getElem? fun m => ?_
      by_cases hm : ii = m
      · subst hm
        rw [List.getElem?_set_self (List.getElem?_eq_some_iff.mp hv).1, hv]
      · rw [List.getElem?_set_ne hm]] at z
    exact g_next z)
/-! loops -/
theorem g_forR1 (h : EvA K rs ta ds [.int n] rs1) (hn : 0 ≤ n ∧ n ≤ 100000) (I : Nat → List (Option Da) → List Rs → Prop) (h0 : I 0 ds rs1)
    (hs : ∀ (i : Nat) ds rs, (i : Int) < n → I i ds rs → G K F0 tw { D with nx := Post K F0 (I (i + 1)), ct := Post K F0 (I (i + 1)), bk := tz D } (ds.set ii (some (.int (i : Int)))) rs)
    (hd : ∀ ds rs, I n.toNat ds rs → G K F0 tz D ds rs) : G K F0 (tSeq (tFor (iRng1 ta) (gName ii) tw) tz) D ds rs := fun σ F H s vs o =>
  h σ F H vs o _ fun ws F1 H1 s1 dw o1 => by
    obtain ⟨v, r, rfl, hv, rfl⟩ := dw
    refine ⟨n, by rw [show v = _ from hv], by omega, by omega, for_range (lo := 0) (n := n.toNat) (fun i => Post K F0 (I i)) ⟨ds, rs1, F1, s.trans s1, h0, vs.mono s1, o1⟩ (fun i σ' H' hi p => ?_) (fun σ' H' p => ?_)⟩
    · obtain ⟨ds', rs', F', s', hI, vs', o'⟩ := p
      have e0 : (0 : Int) + (i : Int) = (i : Int) := Int.zero_add _
      show tw _ (σ'.set ii (some (.int ((0 : Int) + (i : Int))))) H'
      rw [e0]
      exact hs i ds' rs' (by omega) hI _ F' H' s' (vs'.set rfl) o'
    · obtain ⟨ds', rs', F', s', hI, vs', o'⟩ := p
      exact hd ds' rs' hI σ' F' H' s' vs' o'
theorem g_forRC {lo hi c : Int} {m : Nat} (h : EvA K rs ta ds [.int lo, .int hi, .int c] rs1) (hn : RgC lo hi c m) (I : Nat → List (Option Da) → List Rs → Prop) (h0 : I 0 ds rs1)
    (hs : ∀ (i : Nat) ds rs, i < m → I i ds rs → G K F0 tw { D with nx := Post K F0 (I (i + 1)), ct := Post K F0 (I (i + 1)), bk := tz D } (ds.set ii (some (.int (lo + (i : Int) * c)))) rs)
    (hd : ∀ ds rs, I m ds rs → G K F0 tz D ds rs) : G K F0 (tSeq (tFor (iRng3 ta) (gName ii) tw) tz) D ds rs := fun σ F H s vs o =>
  h σ F H vs o _ fun ws F1 H1 s1 dw o1 => by
    obtain ⟨v1, r1, rfl, hv1, v2, r2, rfl, hv2, v3, r3, rfl, hv3, rfl⟩ := dw
    refine ⟨lo, hi, c, m, by rw [show v1 = _ from hv1, show v2 = _ from hv2, show v3 = _ from hv3], hn, for_rangeC (lo := lo) (c := c) (n := m) (fun i => Post K F0 (I i)) ⟨ds, rs1, F1, s.trans s1, h0, vs.mono s1, o1⟩ (fun i σ' H' hi p => ?_) (fun σ' H' p => ?_)⟩
    · obtain ⟨ds', rs', F', s', hI, vs', o'⟩ := p
      exact hs i ds' rs' hi hI _ F' H' s' (vs'.set rfl) o'
    · obtain ⟨ds', rs', F', s', hI, vs', o'⟩ := p
      exact hd ds' rs' hI σ' F' H' s' vs' o'
/-- for x in l: the list stands still -/
theorem g_forL {l : List Da} (h : Ev K rs te ds (.list l) rs1) (I : Nat → List (Option Da) → List Rs → Prop) (h0 : I 0 ds rs1)
    (hs : ∀ F1 (i : Nat) x ds rs, Sub F0 F1 → l[i]? = some x → I i ds rs → G K F1 tw { D with nx := Post K F1 (I (i + 1)), ct := Post K F1 (I (i + 1)), bk := tz D } (ds.set ii (some x)) rs)
    (hd : ∀ ds rs, I l.length ds rs → G K F0 tz D ds rs) : G K F0 (tSeq (tFor (iList K te) (gName ii) tw) tz) D ds rs := fun σ F H s vs o =>
  h σ F H vs o _ fun v F1 H1 s1 dv o1 => by
    obtain ⟨a, xs, rfl, ha, hx⟩ := dv
    refine ⟨a, rfl, ⟨xs, .inl (.inl (ow_sub o1 _ _ ha))⟩, for_list (K := K) (a := a) (xs := xs) (fun i => Post K F1 (I i)) ⟨ds, rs1, F1, Sub.refl F1, h0, vs.mono s1, o1⟩ (fun i σ' H' _ p => ?_) (fun i x σ' H' hi p => ?_) (fun σ' H' p => ?_)⟩
    · obtain ⟨ds', rs', F', s', hI, vs', o'⟩ := p
      exact .inl (.inl (ow_sub o' _ _ (s' _ _ ha)))
    · obtain ⟨ds', rs', F', s', hI, vs', o'⟩ := p
      have hil : i < l.length := by rw [← dvAll_len hx]; exact (List.getElem?_eq_some_iff.mp hi).1
      obtain ⟨w, g1, g2⟩ := dvAll_get hx (List.getElem?_eq_getElem hil)
      rw [g1] at hi
      obtain rfl := Option.some.inj hi
      exact hs F1 i _ ds' rs' (s.trans s1) (List.getElem?_eq_getElem hil) hI _ F' H' s' (vs'.set (Dv.mono s' _ _ g2)) o'
    · obtain ⟨ds', rs', F', s', hI, vs', o'⟩ := p
      rw [dvAll_len hx] at hI
      exact hd ds' rs' hI σ' F' H' ((s.trans s1).trans s') vs' o'
theorem g_forT {l : List Da} (h : Ev K rs te ds (.tup l) rs1) (I : Nat → List (Option Da) → List Rs → Prop) (h0 : I 0 ds rs1)
    (hs : ∀ F1 (i : Nat) x ds rs, Sub F0 F1 → l[i]? = some x → I i ds rs → G K F1 tw { D with nx := Post K F1 (I (i + 1)), ct := Post K F1 (I (i + 1)), bk := tz D } (ds.set ii (some x)) rs)
    (hd : ∀ ds rs, I l.length ds rs → G K F0 tz D ds rs) : G K F0 (tSeq (tFor (iTup K te) (gName ii) tw) tz) D ds rs := fun σ F H s vs o =>
  h σ F H vs o _ fun v F1 H1 s1 dv o1 => by
    obtain ⟨a, xs, rfl, ha, hx⟩ := dv
    refine ⟨a, rfl, ⟨xs, sqt_up (ow_sub o1) ha⟩, for_tup (K := K) (a := a) (xs := xs) (fun i => Post K F1 (I i)) ⟨ds, rs1, F1, Sub.refl F1, h0, vs.mono s1, o1⟩ (fun i σ' H' _ p => ?_) (fun i x σ' H' hi p => ?_) (fun σ' H' p => ?_)⟩
    · obtain ⟨ds', rs', F', s', hI, vs', o'⟩ := p
      exact sqt_up (ow_sub o') (sqt_up s' ha)
    · obtain ⟨ds', rs', F', s', hI, vs', o'⟩ := p
      have hil : i < l.length := by rw [← dvAll_len hx]; exact (List.getElem?_eq_some_iff.mp hi).1
      obtain ⟨w, g1, g2⟩ := dvAll_get hx (List.getElem?_eq_getElem hil)
      rw [g1] at hi
      obtain rfl := Option.some.inj hi
      exact hs F1 i _ ds' rs' (s.trans s1) (List.getElem?_eq_getElem hil) hI _ F' H' s' (vs'.set (Dv.mono s' _ _ g2)) o'
    · obtain ⟨ds', rs', F', s', hI, vs', o'⟩ := p
      rw [dvAll_len hx] at hI
      exact hd ds' rs' hI σ' F' H' ((s.trans s1).trans s') vs' o'
/-- while: a family of states, a measure -/
theorem g_while {α : Type} (f : α → List (Option Da)) (g : α → List Rs) (inv : α → Prop) (m : α → Nat) (x0 : α) (e1 : ds = f x0) (e2 : rs = g x0) (h0 : inv x0)
    (hs : ∀ x, inv x → ∃ b, EvT K (g x) t (f x) b (g x) ∧ (b = true → G K F0 tw { D with nx := Post K F0 (fun ds rs => ∃ y, inv y ∧ m y < m x ∧ ds = f y ∧ rs = g y), ct := Post K F0 (fun ds rs => ∃ y, inv y ∧ m y < m x ∧ ds = f y ∧ rs = g y), bk := tz D } (f x) (g x)) ∧ (b = false → G K F0 tz D (f x) (g x))) :
    G K F0 (tSeq (tWhile t tw) tz) D ds rs := fun σ F H s vs o => by
  refine ⟨fun k σ H => ∃ x F, k = m x ∧ inv x ∧ Sub F0 F ∧ Vs K F σ (f x) ∧ Ow F (g x) H, ⟨_, x0, F, rfl, h0, s, e1 ▸ vs, e2 ▸ o⟩, ?_⟩
  rintro k σ H ⟨x, F, rfl, hi, s, vs, o⟩
  obtain ⟨b, hb, h1, h2⟩ := hs x hi
  refine hb σ F H vs o _ fun F1 H1 s1 o1 => ?_
  cases e : b with
  | true =>
    refine ⟨Post K F0 (fun ds rs => ∃ y, inv y ∧ m y < m x ∧ ds = f y ∧ rs = g y), fun σ' H' p => ?_, h1 e σ F1 H1 (s.trans s1) (vs.mono s1) o1⟩
    obtain ⟨ds', rs', F', s', ⟨y, hy, lt, rfl, rfl⟩, vs', o'⟩ := p
    exact ⟨m y, lt, y, F', rfl, hy, s', vs', o'⟩
  | false => exact h2 e σ F1 H1 (s.trans s1) (vs.mono s1) o1
end
/-! ### promises -/
def SpG (K : PySem.W.Frag) (R : List Da → List Rs → Da → List Rs → Prop) : Sp := fun vs H Q _ => ∃ F l rs d rs', DvAll K F l vs ∧ Ow F rs H ∧ R l rs d rs' ∧ ∀ v F' H', Sub F F' → Dv K F' d v → Ow F' rs' H' → Q v H'
section
variable {K : PySem.W.Frag} {ds : List (Option Da)} {rs rs1 rs2 : List Rs} {ta : TA} {d : Da} {l : List Da}
theorem call {R : List Da → List Rs → Da → List Rs → Prop} {E : XK} (h : EvA K rs ta ds l rs1) (hR : R l rs1 d rs2) : Ev K rs (tCall (SpG K R) [] E ta) ds d rs2 := fun σ F H vs o Q q =>
  h σ F H vs o _ fun ws F1 H1 s1 dw o1 => ⟨F1, l, rs1, d, rs2, by rw [List.append_nil]; exact dw, o1, hR, fun v F2 H2 s2 => q v F2 H2 (s1.trans s2)⟩
/-- a def of the older kind that gives a plain value -/
theorem callO {pre : List V → Hp → V → Prop} {E : XK} (h : EvA K rs ta ds l rs1) (v : V) (hd : ∀ F, Dv K F d v) (hp : ∀ ws F H, DvAll K F l ws → Sub F H → pre ws H v) : Ev K rs (tCall (SpO pre) [] E ta) ds d rs1 := fun σ F H vs o Q q =>
  h σ F H vs o _ fun ws F1 H1 s1 dw o1 => ⟨v, by rw [List.append_nil]; exact hp ws F1 H1 dw (ow_sub o1), fun H2 s2 => q v F1 H2 s1 (hd F1) (ow_up s2 o1)⟩
theorem callL {pre : List V → Hp → List Int → Prop} {E : XK} {xs : List Int} (h : EvA K rs ta ds l rs1) (hp : ∀ ws F H, DvAll K F l ws → Sub F H → pre ws H xs) : Ev K rs (tCall (SpLi pre) [] E ta) ds (li xs) rs1 := fun σ F H vs o Q q =>
  h σ F H vs o _ fun ws F1 H1 s1 dw o1 => ⟨xs, by rw [List.append_nil]; exact hp ws F1 H1 dw (ow_sub o1), fun p H2 n s2 hp => by
    obtain ⟨o2, x⟩ := ow_new (u := .lst (xs.map V.int)) o1 n
    have up : Sub (upd H1 p (.lst (xs.map V.int))) H2 := fun b v q => by
      by_cases hb : b = p
      · subst hb; rw [upd_same] at q; rw [← q]; exact hp
      · rw [upd_ne hb] at q; exact s2 b v q
    exact q _ _ H2 (s1.trans x) (dv_li_mk upd_same) (ow_up up o2)⟩
theorem dv1 {F : Hp} {d1 : Da} {ws : List V} (h : DvAll K F [d1] ws) : ∃ v, ws = [v] ∧ Dv K F d1 v := by
  obtain ⟨v, r, rfl, hv, rfl⟩ := h
  exact ⟨v, rfl, hv⟩
theorem dv2 {F : Hp} {d1 d2 : Da} {ws : List V} (h : DvAll K F [d1, d2] ws) : ∃ v w, ws = [v, w] ∧ Dv K F d1 v ∧ Dv K F d2 w := by
  obtain ⟨v, r, rfl, hv, w, r2, rfl, hw, rfl⟩ := h
  exact ⟨v, w, rfl, hv, hw⟩
end
section
variable {K : PySem.W.Frag} {ds : List (Option Da)} {rs rs1 rs2 : List Rs} {ta : TA} {E : XK} {a b k : Int} {ns : List Int} {s : M.Seg}
theorem c_plus (h : EvA K rs ta ds [.int a, .int b] rs1) : Ev K rs (tCall (SpO p_plus) [] E ta) ds (.int (M.plus a b)) rs1 := callO h (.int _) (fun _ => rfl) fun ws F H dw x => by
  obtain ⟨v, w, rfl, h1, h2⟩ := dv2 dw; rw [show v = _ from h1, show w = _ from h2]; exact ⟨a, b, rfl, rfl⟩
theorem c_offset (h : EvA K rs ta ds [.int a, .int b] rs1) : Ev K rs (tCall (SpO p_offset) [] E ta) ds (.int (M.offset a b)) rs1 := callO h (.int _) (fun _ => rfl) fun ws F H dw x => by
  obtain ⟨v, w, rfl, h1, h2⟩ := dv2 dw; rw [show v = _ from h1, show w = _ from h2]; exact ⟨a, b, rfl, rfl⟩
theorem c_past (h : EvA K rs ta ds [.int a, .int b] rs1) : Ev K rs (tCall (SpO p_past) [] E ta) ds (.bl (M.past a b)) rs1 := callO h (.bl _) (fun _ => rfl) fun ws F H dw x => by
  obtain ⟨v, w, rfl, h1, h2⟩ := dv2 dw; rw [show v = _ from h1, show w = _ from h2]; exact ⟨a, b, rfl, rfl⟩
theorem c_mix (h : EvA K rs ta ds [.scr ns, .int k] rs1) : Ev K rs (tCall (SpO (p_mix K)) [] E ta) ds (.int (M.mix ns k)) rs1 := callO h (.int _) (fun _ => rfl) fun ws F H dw x => by
  obtain ⟨v, w, rfl, ⟨p, rfl, h1⟩, h2⟩ := dv2 dw; rw [show w = _ from h2]; exact ⟨p, ns, k, rfl, sql_up x h1, rfl⟩
theorem c_whole (h : EvA K rs ta ds [.int a] rs1) : Ev K rs (tCall (SpO p_whole) [] E ta) ds (.bl true) rs1 := callO h (.bl _) (fun _ => rfl) fun ws F H dw x => by
  obtain ⟨v, rfl, h1⟩ := dv1 dw; rw [show v = _ from h1]; exact ⟨a, rfl, rfl⟩
theorem c_folded (h : EvA K rs ta ds [li ns] rs1) (hz : ns.length ≤ 100000) : Ev K rs (tCall (SpO (p_folded K)) [] E ta) ds (.int (M.folded ns)) rs1 := callO h (.int _) (fun _ => rfl) fun ws F H dw x => by
  obtain ⟨v, rfl, h1⟩ := dv1 dw; obtain ⟨p, rfl, h2⟩ := dv_li h1; exact ⟨p, ns, rfl, .inl (.inl (x _ _ h2)), hz, rfl⟩
theorem c_sum_of (h : EvA K rs ta ds [li ns] rs1) (hz : ns.length ≤ 100000) : Ev K rs (tCall (SpO (p_sum_of K)) [] E ta) ds (.int (M.sum_of ns)) rs1 := callO h (.int _) (fun _ => rfl) fun ws F H dw x => by
  obtain ⟨v, rfl, h1⟩ := dv1 dw; obtain ⟨p, rfl, h2⟩ := dv_li h1; exact ⟨p, ns, rfl, .inl (.inl (x _ _ h2)), hz, rfl⟩
theorem c_two (h : EvA K rs ta ds [.int a] rs1) : Ev K rs (tCall (SpLi p_two) [] E ta) ds (li (M.two a)) rs1 := callL h fun ws F H dw x => by
  obtain ⟨v, rfl, h1⟩ := dv1 dw; rw [show v = _ from h1]; exact ⟨a, rfl, rfl⟩
theorem c_four (h : EvA K rs ta ds [.int a] rs1) : Ev K rs (tCall (SpLi p_four) [] E ta) ds (li (M.four a)) rs1 := callL h fun ws F H dw x => by
  obtain ⟨v, rfl, h1⟩ := dv1 dw; rw [show v = _ from h1]; exact ⟨a, rfl, rfl⟩
theorem c_number_of (h : EvA K rs ta ds [li ns] rs1) : Ev K rs (tCall (SpO (p_number_of K)) [] E ta) ds (.int (M.number_of ns)) rs1 := callO h (.int _) (fun _ => rfl) fun ws F H dw x => by
  obtain ⟨v, rfl, h1⟩ := dv1 dw; obtain ⟨p, rfl, h2⟩ := dv_li h1; exact ⟨p, ns, rfl, .inl (.inl (x _ _ h2)), rfl⟩
end
/-! ### a def by such a promise -/
def locs (l : List Da) (n : Nat) : List (Option Da) := l.map some ++ List.replicate (n - l.length) none
theorem vs_start {K : PySem.W.Frag} {F : Hp} {N : List Str} {l : List Da} {ws : List V} (h : DvAll K F l ws) : Vs K F (L2.start N ws) (locs l N.length) := by
  have e := dvAll_len h
  refine ⟨by unfold L2.start locs; rw [List.length_append, List.length_append, List.length_map, List.length_map, List.length_replicate, List.length_replicate, e], fun i d hd => ?_⟩
  unfold locs at hd
  unfold L2.start
  by_cases hi : i < l.length
  · rw [List.getElem?_append_left (by rw [List.length_map]; exact hi), List.getElem?_map, List.getElem?_eq_getElem hi] at hd
    obtain ⟨v, h1, h2⟩ := dvAll_get h (List.getElem?_eq_getElem hi)
    have : l[i] = d := Option.some.inj (Option.some.inj hd)
    rw [this] at h2
    exact ⟨v, by rw [List.getElem?_append_left (by rw [List.length_map, e]; exact hi), List.getElem?_map, h1]; rfl, h2⟩
  · rw [List.getElem?_append_right (by rw [List.length_map]; omega), List.getElem?_replicate] at hd
    split at hd <;> cases hd
section
variable {P : Program} {w : World} {K : PySem.W.Frag} {mg : Str → Option Value} {base : Heap} {fa : List He.Fa} {fn : List He.DefD} {ex : PySem.W.Frag → Bool}
theorem df_mkG {x : Str} {N ps : List Str} {k : Nat} {R : List Da → List Rs → Da → List Rs → Prop} {ar : Arguments} {bo : List Stmt} {sc : Scope} (T : Tx fa fn ex w K mg) (i j : Nat) (hi : fn[i]? = some ⟨(x, none), x, x, ar, bo, sc, [], []⟩) (hj : fa[j]? = some (.glo x)) (S : FnScope N ps sc)
    (hb : ∀ (kV doc pm : Value) (an : Option Addr) (cdv ct : Value) (us : List Value), us.length = ps.length → bindArgs (PySem.W.fnOf x x ar bo sc .none kV doc pm an cdv ct) ⟨us, []⟩ = pure (ps.zip us))
    (len : ∀ l rs d rs', R l rs d rs' → l.length = ps.length)
    (hbody : ∀ (f : Addr) (cdv : Value) (A : Around) (outer : List Env) (s : Shared) (H : Hp) (E : XK), Room k (A.deeper (envOfC x sc s.heap.objs.size f cdv)) →
      ∃ t, PSs (cxOf CX0 P w K mg base N x sc f cdv A outer s H E).nox bo t ∧ ∀ (F : Hp) (l : List Da) (rs : List Rs) (d : Da) (rs' : List Rs) (Q : VK), R l rs d rs' → (∀ v F' H', Sub F F' → Dv K F' d v → Ow F' rs' H' → Q v H') →
        G K F t { nx := fun _ H' => Q .non H', rt := Q } (locs l N.length) rs) : Df P w K mg base CX0 (k + 1) x ps (SpG K R) := by
  refine df_mk T i j hi hj S hb (fun vs H Q E h => ?_) (fun f cdv A outer s H vs Q E hr h => ?_)
  · obtain ⟨F, l, rs, d, rs', dw, _, hR, _⟩ := h
    rw [dvAll_len dw]; exact len _ _ _ _ hR
  · obtain ⟨F, l, rs, d, rs', dw, o, hR, kk⟩ := h
    obtain ⟨t, h1, h2⟩ := hbody f cdv A outer s H E hr
    exact ⟨t, h1, h2 F l rs d rs' Q hR kk _ F H (Sub.refl F) (vs_start dw) o⟩
theorem g_end {F0 : Hp} {D : Ends} {ds : List (Option Da)} {rs : List Rs} {Q : VK} (hD : D.nx = fun _ H' => Q .non H') (k : ∀ v F H, Sub F0 F → Dv K F .non v → Ow F rs H → Q v H) : G K F0 tNext D ds rs := fun σ F H s vs o => by
  show D.nx σ H
  rw [hD]
  exact k .non F H s rfl o
end
end Lg

namespace Lg
open PySem PySem.Spec PyProof.Rows L2 Wr
/-! ### equality of data -/
mutual
def toPy : Da → PyData
  | .non => .none
  | .bl b => .bool b
  | .int n => .int n
  | .str s => .str s
  | .list l => .list (toPyAll l)
  | .tup l => .tuple (toPyAll l)
  | .scr l => .list (l.map PyData.int)
  | .ref _ => .none
def toPyAll : List Da → List PyData
  | [] => []
  | d :: l => toPy d :: toPyAll l
end
mutual
def flat : Da → Bool
  | .ref _ => false
  | .list l => flatAll l
  | .tup l => flatAll l
  | _ => true
def flatAll : List Da → Bool
  | [] => true
  | d :: l => flat d && flatAll l
end
theorem dpAll_int {K : PySem.W.Frag} {H : Hp} : ∀ {l : List Int}, DpAll K H (l.map V.int) (l.map PyData.int)
  | [] => .nil
  | _ :: _ => .cons (.int _) dpAll_int
mutual
theorem dv_dp {K : PySem.W.Frag} {F H : Hp} (s : Sub F H) : ∀ (d : Da) (v : V), flat d = true → Dv K F d v → Dp K H v (toPy d)
  | .non, v, _, h => by rw [show v = _ from h]; exact .non
  | .bl b, v, _, h => by rw [show v = _ from h]; exact .bl b
  | .int n, v, _, h => by rw [show v = _ from h]; exact .int n
  | .str x, v, _, h => by rw [show v = _ from h]; exact .str x
  | .list l, v, f, ⟨a, xs, e, h, r⟩ => by rw [e]; exact .lst (.inl (.inl (s _ _ h))) (dvAll_dp s l xs f r)
  | .tup l, v, f, ⟨a, xs, e, h, r⟩ => by rw [e]; exact .tup (sqt_up s h) (dvAll_dp s l xs f r)
  | .scr l, v, _, ⟨a, e, h⟩ => by rw [e]; exact .lst (sql_up s h) dpAll_int
  | .ref _, v, f, _ => by exact absurd (show false = true from f) Bool.false_ne_true
theorem dvAll_dp {K : PySem.W.Frag} {F H : Hp} (s : Sub F H) : ∀ (l : List Da) (xs : List V), flatAll l = true → DvAll K F l xs → DpAll K H xs (toPyAll l)
  | [], xs, _, h => by rw [show xs = _ from h]; exact .nil
  | d :: l, xs, f, ⟨v, vs, e, h, r⟩ => by
    rw [e]
    have f2 := Bool.and_eq_true_iff.mp (show (flat d && flatAll l) = true from f)
    exact .cons (dv_dp s d v f2.1 h) (dvAll_dp s l vs f2.2 r)
end
section
variable {K : PySem.W.Frag} {ds : List (Option Da)} {rs rs1 rs2 rs3 : List Rs} {ta tb tc te : TE} {t u : TT} {d d1 d2 : Da} {i j k : Int} {b b1 b2 : Bool}
theorem eqD (ha : Ev K rs ta ds d1 rs1) (hb : Ev K rs1 tb ds d2 rs2) (f1 : flat d1 = true) (f2 : flat d2 = true) (s1 : SeqAt.shaped (toPy d1) = true) (s2 : SeqAt.shaped (toPy d2) = true) : Ev K rs (tOp (rEqD K) ta tb) ds (.bl (PyData.eqv (toPy d1) (toPy d2))) rs2 :=
  op ha hb fun x y F H hx hy o Q q => ⟨_, _, dv_dp (ow_sub o) _ _ f1 hx, dv_dp (ow_sub o) _ _ f2 hy, s1, s2, q _ F H (Sub.refl F) rfl o⟩
theorem neD (ha : Ev K rs ta ds d1 rs1) (hb : Ev K rs1 tb ds d2 rs2) (f1 : flat d1 = true) (f2 : flat d2 = true) (s1 : SeqAt.shaped (toPy d1) = true) (s2 : SeqAt.shaped (toPy d2) = true) : Ev K rs (tOp (rNeD K) ta tb) ds (.bl (!PyData.eqv (toPy d1) (toPy d2))) rs2 :=
  op ha hb fun x y F H hx hy o Q q => ⟨_, _, dv_dp (ow_sub o) _ _ f1 hx, dv_dp (ow_sub o) _ _ f2 hy, s1, s2, q _ F H (Sub.refl F) rfl o⟩
end
/-! the data of the laws: their shapes, when they are equal -/
theorem flatAll_int : ∀ l : List Int, flatAll (l.map Da.int) = true
  | [] => rfl
  | _ :: l => flatAll_int l
theorem flat_li (l : List Int) : flat (li l) = true := flatAll_int l
theorem flat_ti (l : List Int) : flat (ti l) = true := flatAll_int l
theorem toPyAll_int : ∀ l : List Int, toPyAll (l.map Da.int) = l.map PyData.int
  | [] => rfl
  | n :: l => congrArg (PyData.int n :: ·) (toPyAll_int l)
theorem canLay_ints : ∀ l : List Int, PyData.canLayAll0 (l.map PyData.int) = true
  | [] => rfl
  | _ :: l => by rw [List.map_cons]; unfold PyData.canLayAll0; rw [canLay_ints l]; rfl
theorem depth_ints : ∀ l : List Int, PyData.depthAll (l.map PyData.int) = 0
  | [] => rfl
  | _ :: l => by rw [List.map_cons]; unfold PyData.depthAll; rw [depth_ints l]; rfl
theorem eqv_ints : ∀ l m : List Int, PyData.eqvAll (l.map PyData.int) (m.map PyData.int) = decide (l = m)
  | [], [] => rfl
  | [], _ :: _ => rfl
  | _ :: _, [] => rfl
  | a :: l, b :: m => by
    rw [List.map_cons, List.map_cons]
    unfold PyData.eqvAll
    rw [eqv_ints l m, Bool.eq_iff_iff]
    simp [PyData.eqv]
theorem shaped_li (l : List Int) : SeqAt.shaped (toPy (li l)) = true := by
  show (PyData.canLayAll0 (toPyAll (l.map Da.int)) && decide (PyData.depthAll (toPyAll (l.map Da.int)) + 1 ≤ 64)) = true
  rw [toPyAll_int, canLay_ints, depth_ints]; rfl
theorem shaped_ti (l : List Int) : SeqAt.shaped (toPy (ti l)) = true := by
  show (PyData.canLayAll0 (toPyAll (l.map Da.int)) && decide (PyData.depthAll (toPyAll (l.map Da.int)) + 1 ≤ 64)) = true
  rw [toPyAll_int, canLay_ints, depth_ints]; rfl
theorem eqv_li (l m : List Int) : PyData.eqv (toPy (li l)) (toPy (li m)) = decide (l = m) := by
  show PyData.eqvAll (toPyAll (l.map Da.int)) (toPyAll (m.map Da.int)) = _
  rw [toPyAll_int, toPyAll_int, eqv_ints]
theorem eqv_ti (l m : List Int) : PyData.eqv (toPy (ti l)) (toPy (ti m)) = decide (l = m) := by
  show PyData.eqvAll (toPyAll (l.map Da.int)) (toPyAll (m.map Da.int)) = _
  rw [toPyAll_int, toPyAll_int, eqv_ints]
theorem flat_sg (s : M.Seg) : flat (sg s) = true := by
  show (flat (ti s.data) && true) = true
  rw [flat_ti]; rfl
theorem canLay_sg (s : M.Seg) : PyData.canLay0 (toPy (sg s)) = true := by
  show (PyData.canLayAll0 (toPyAll (s.data.map Da.int)) && true) = true
  rw [toPyAll_int, canLay_ints]; rfl
theorem depth_sg (s : M.Seg) : PyData.depth (toPy (sg s)) = 2 := by
  show max 0 (max 0 (max 0 (max 0 (max 0 (max 0 (max 0 (max (PyData.depthAll (toPyAll (s.data.map Da.int)) + 1) 0))))))) + 1 = 2
  rw [toPyAll_int, depth_ints]; rfl
theorem shaped_sg (s : M.Seg) : SeqAt.shaped (toPy (sg s)) = true := by
  unfold SeqAt.shaped
  rw [canLay_sg, depth_sg]; rfl
theorem eqv_sg (s r : M.Seg) : PyData.eqv (toPy (sg s)) (toPy (sg r)) = decide (s = r) := by
  show ((s.src == r.src) && ((s.goal == r.goal) && ((s.num == r.num) && ((s.ans == r.ans) && ((s.flags == r.flags) && ((s.win == r.win) && ((s.most == r.most) && (PyData.eqvAll (toPyAll (s.data.map Da.int)) (toPyAll (r.data.map Da.int)) && true)))))))) = _
  rw [toPyAll_int, toPyAll_int, eqv_ints, Bool.eq_iff_iff]
  obtain ⟨a1, a2, a3, a4, a5, a6, a7, a8⟩ := s
  obtain ⟨c1, c2, c3, c4, c5, c6, c7, c8⟩ := r
  simp
/-- a segment or none; a list of them -/
def osg : Option M.Seg → Da
  | none => .non
  | some s => sg s
def lsg (l : List (Option M.Seg)) : Da := .list (l.map osg)
theorem flat_osg (o : Option M.Seg) : flat (osg o) = true := by
  cases o with
  | none => rfl
  | some s => exact flat_sg s
theorem canLay_osg (o : Option M.Seg) : PyData.canLay0 (toPy (osg o)) = true := by
  cases o with
  | none => rfl
  | some s => exact canLay_sg s
theorem depth_osg (o : Option M.Seg) : PyData.depth (toPy (osg o)) ≤ 2 := by
  cases o with
  | none => exact Nat.zero_le _
  | some s => exact Nat.le_of_eq (depth_sg s)
theorem eqv_osg (s r : Option M.Seg) : PyData.eqv (toPy (osg s)) (toPy (osg r)) = decide (s = r) := by
  cases s with
  | none => cases r <;> rfl
  | some s => cases r with
    | none => rfl
    | some r =>
      rw [show osg (some s) = sg s from rfl, show osg (some r) = sg r from rfl, eqv_sg, Bool.eq_iff_iff]
      simp
theorem shaped_osg (o : Option M.Seg) : SeqAt.shaped (toPy (osg o)) = true := by
  unfold SeqAt.shaped
  rw [canLay_osg, Bool.true_and]
  exact decide_eq_true (Nat.le_trans (depth_osg o) (by decide))
theorem lsg_all : ∀ l : List (Option M.Seg), flatAll (l.map osg) = true ∧ PyData.canLayAll0 (toPyAll (l.map osg)) = true ∧ PyData.depthAll (toPyAll (l.map osg)) ≤ 2
  | [] => ⟨rfl, rfl, Nat.zero_le _⟩
  | o :: l => by
    obtain ⟨h1, h2, h3⟩ := lsg_all l
    refine ⟨?_, ?_, ?_⟩
    · show (flat (osg o) && flatAll (l.map osg)) = true
      rw [flat_osg, h1]; rfl
    · show (PyData.canLay0 (toPy (osg o)) && PyData.canLayAll0 (toPyAll (l.map osg))) = true
      rw [canLay_osg, h2]; rfl
    · show max (PyData.depth (toPy (osg o))) (PyData.depthAll (toPyAll (l.map osg))) ≤ 2
      exact Nat.max_le.mpr ⟨depth_osg o, h3⟩
theorem flat_lsg (l : List (Option M.Seg)) : flat (lsg l) = true := (lsg_all l).1
theorem shaped_lsg (l : List (Option M.Seg)) : SeqAt.shaped (toPy (lsg l)) = true := by
  show (PyData.canLayAll0 (toPyAll (l.map osg)) && decide (PyData.depthAll (toPyAll (l.map osg)) + 1 ≤ 64)) = true
  rw [(lsg_all l).2.1, Bool.true_and]
  exact decide_eq_true (Nat.le_trans (Nat.succ_le_succ (lsg_all l).2.2) (by decide))
theorem eqv_lsg : ∀ l m : List (Option M.Seg), PyData.eqv (toPy (lsg l)) (toPy (lsg m)) = decide (l = m)
  | [], [] => rfl
  | [], _ :: _ => rfl
  | _ :: _, [] => rfl
  | a :: l, b :: m => by
    have ih := eqv_lsg l m
    show (PyData.eqv (toPy (osg a)) (toPy (osg b)) && PyData.eqv (toPy (lsg l)) (toPy (lsg m))) = _
    rw [eqv_osg, ih, Bool.eq_iff_iff]
    simp
section
variable {K : PySem.W.Frag} {ds : List (Option Da)} {rs rs1 rs2 rs3 : List Rs} {ta tb tc te : TE} {t u : TT} {d d1 d2 : Da} {i j k : Int} {b b1 b2 : Bool}
theorem eqLi {l m : List Int} (ha : Ev K rs ta ds (li l) rs1) (hb : Ev K rs1 tb ds (li m) rs2) : Ev K rs (tOp (rEqD K) ta tb) ds (.bl (decide (l = m))) rs2 := eqv_li l m ▸ eqD ha hb (flat_li l) (flat_li m) (shaped_li l) (shaped_li m)
theorem neLi {l m : List Int} (ha : Ev K rs ta ds (li l) rs1) (hb : Ev K rs1 tb ds (li m) rs2) : Ev K rs (tOp (rNeD K) ta tb) ds (.bl (!decide (l = m))) rs2 := eqv_li l m ▸ neD ha hb (flat_li l) (flat_li m) (shaped_li l) (shaped_li m)
theorem eqSg {l m : M.Seg} (ha : Ev K rs ta ds (sg l) rs1) (hb : Ev K rs1 tb ds (sg m) rs2) : Ev K rs (tOp (rEqD K) ta tb) ds (.bl (decide (l = m))) rs2 := eqv_sg l m ▸ eqD ha hb (flat_sg l) (flat_sg m) (shaped_sg l) (shaped_sg m)
theorem eqOsg {l m : Option M.Seg} (ha : Ev K rs ta ds (osg l) rs1) (hb : Ev K rs1 tb ds (osg m) rs2) : Ev K rs (tOp (rEqD K) ta tb) ds (.bl (decide (l = m))) rs2 := eqv_osg l m ▸ eqD ha hb (flat_osg l) (flat_osg m) (shaped_osg l) (shaped_osg m)
theorem neOsg {l m : Option M.Seg} (ha : Ev K rs ta ds (osg l) rs1) (hb : Ev K rs1 tb ds (osg m) rs2) : Ev K rs (tOp (rNeD K) ta tb) ds (.bl (!decide (l = m))) rs2 := eqv_osg l m ▸ neD ha hb (flat_osg l) (flat_osg m) (shaped_osg l) (shaped_osg m)
theorem eqLsg {l m : List (Option M.Seg)} (ha : Ev K rs ta ds (lsg l) rs1) (hb : Ev K rs1 tb ds (lsg m) rs2) : Ev K rs (tOp (rEqD K) ta tb) ds (.bl (decide (l = m))) rs2 := eqv_lsg l m ▸ eqD ha hb (flat_lsg l) (flat_lsg m) (shaped_lsg l) (shaped_lsg m)
theorem neLsg {l m : List (Option M.Seg)} (ha : Ev K rs ta ds (lsg l) rs1) (hb : Ev K rs1 tb ds (lsg m) rs2) : Ev K rs (tOp (rNeD K) ta tb) ds (.bl (!decide (l = m))) rs2 := eqv_lsg l m ▸ neD ha hb (flat_lsg l) (flat_lsg m) (shaped_lsg l) (shaped_lsg m)
theorem isNon (ha : Ev K rs ta ds d rs1) (hd : ∀ F v, Dv K F d v → decide (v = V.non) = b) : Ev K rs (tOp (fun x y H Q => y = .non ∧ Q (.bl (decide (x = .non))) H) ta (tC .non)) ds (.bl b) rs1 :=
  op ha cNon fun x y F H hx hy o Q q => ⟨hy, by rw [hd F x hx]; exact q _ F H (Sub.refl F) rfl o⟩
theorem notNon (ha : Ev K rs ta ds d rs1) (hd : ∀ F v, Dv K F d v → decide (v = V.non) = b) : Ev K rs (tOp (fun x y H Q => y = .non ∧ Q (.bl (!decide (x = .non))) H) ta (tC .non)) ds (.bl (!b)) rs1 :=
  op ha cNon fun x y F H hx hy o Q q => ⟨hy, by rw [hd F x hx]; exact q _ F H (Sub.refl F) rfl o⟩
theorem non_osg {F : Hp} {v : V} {o : Option M.Seg} (h : Dv K F (osg o) v) : decide (v = V.non) = o.isNone := by
  cases o with
  | none => rw [show v = _ from h]; rfl
  | some s =>
    obtain ⟨a, xs, rfl, _⟩ := h
    rfl
/-! ### conversions -/
theorem intB (ha : Ev K rs ta ds (.bl b) rs1) : Ev K rs (tCB (fun xs H Q => (∃ i, xs = [.int i] ∧ Q (.int i) H) ∨ ∃ k, xs = [.bl k] ∧ Q (.int (if k then 1 else 0)) H) (tCons ta tNil)) ds (.int (M.b2i b)) rs1 := cb (cons_ ha nil_) fun xs F H dx o Q q => by
  obtain ⟨v, rfl, h1⟩ := dv1 dx
  rw [show v = _ from h1]
  exact .inr ⟨b, rfl, q _ F H (Sub.refl F) rfl o⟩
abbrev rTupOf (K : PySem.W.Frag) : List V → Hp → VK → Prop := fun xs H Q => ∃ p ys, xs = [.ref p] ∧ ((SqL K H p ys ∧ ∀ l, H l = none → Q (.ref l) (upd H l (.tup ys))) ∨ (SqT K H p ys ∧ Q (.ref p) H))
abbrev rLstOf (K : PySem.W.Frag) : List V → Hp → VK → Prop := fun xs H Q => ∃ p ys, xs = [.ref p] ∧ (SqL K H p ys ∨ SqT K H p ys) ∧ ∀ l, H l = none → Q (.ref l) (upd H l (.lst ys))
theorem tupL {l : List Da} (ha : Ev K rs ta ds (.list l) rs1) : Ev K rs (tCB (rTupOf K) (tCons ta tNil)) ds (.tup l) rs1 := cb (cons_ ha nil_) fun xs F H dx o Q q => by
  obtain ⟨v, rfl, a, ys, rfl, h1, h2⟩ := dv1 dx
  refine ⟨a, ys, rfl, .inl ⟨.inl (.inl (ow_sub o _ _ h1)), fun p hp => ?_⟩⟩
  obtain ⟨o2, x⟩ := ow_new (u := .tup ys) o hp
  exact q _ _ _ x ⟨p, _, rfl, .inl (.inl upd_same), DvAll.mono x _ _ h2⟩ o2
theorem tupT {l : List Da} (ha : Ev K rs ta ds (.tup l) rs1) : Ev K rs (tCB (rTupOf K) (tCons ta tNil)) ds (.tup l) rs1 := cb (cons_ ha nil_) fun xs F H dx o Q q => by
  obtain ⟨v, rfl, a, ys, rfl, h1, h2⟩ := dv1 dx
  exact ⟨a, ys, rfl, .inr ⟨sqt_up (ow_sub o) h1, q _ F H (Sub.refl F) ⟨a, ys, rfl, h1, h2⟩ o⟩⟩
theorem lstL {l : List Da} (ha : Ev K rs ta ds (.list l) rs1) : Ev K rs (tCB (rLstOf K) (tCons ta tNil)) ds (.list l) rs1 := cb (cons_ ha nil_) fun xs F H dx o Q q => by
  obtain ⟨v, rfl, a, ys, rfl, h1, h2⟩ := dv1 dx
  refine ⟨a, ys, rfl, .inl (.inl (.inl (ow_sub o _ _ h1))), fun p hp => ?_⟩
  obtain ⟨o2, x⟩ := ow_new (u := .lst ys) o hp
  exact q _ _ _ x ⟨p, _, rfl, upd_same, DvAll.mono x _ _ h2⟩ o2
theorem lstT {l : List Da} (ha : Ev K rs ta ds (.tup l) rs1) : Ev K rs (tCB (rLstOf K) (tCons ta tNil)) ds (.list l) rs1 := cb (cons_ ha nil_) fun xs F H dx o Q q => by
  obtain ⟨v, rfl, a, ys, rfl, h1, h2⟩ := dv1 dx
  refine ⟨a, ys, rfl, .inr (sqt_up (ow_sub o) h1), fun p hp => ?_⟩
  obtain ⟨o2, x⟩ := ow_new (u := .lst ys) o hp
  exact q _ _ _ x ⟨p, _, rfl, upd_same, DvAll.mono x _ _ h2⟩ o2
theorem max2 (ha : Ev K rs ta ds (.int i) rs1) (hb : Ev K rs1 tb ds (.int j) rs2) : Ev K rs (tCB (fun xs H Q => ∃ i j, xs = [.int i, .int j] ∧ Q (.int (if j > i then j else i)) H) (tCons ta (tCons tb tNil))) ds (.int (M.mx i j)) rs2 := cb (cons_ ha (cons_ hb nil_)) fun xs F H dx o Q q => by
  obtain ⟨v, w, rfl, h1, h2⟩ := dv2 dx
  rw [show v = _ from h1, show w = _ from h2]
  exact ⟨i, j, rfl, q _ F H (Sub.refl F) rfl o⟩
theorem min2 (ha : Ev K rs ta ds (.int i) rs1) (hb : Ev K rs1 tb ds (.int j) rs2) : Ev K rs (tCB (fun xs H Q => ∃ i j, xs = [.int i, .int j] ∧ Q (.int (if j < i then j else i)) H) (tCons ta (tCons tb tNil))) ds (.int (M.mn i j)) rs2 := cb (cons_ ha (cons_ hb nil_)) fun xs F H dx o Q q => by
  obtain ⟨v, w, rfl, h1, h2⟩ := dv2 dx
  rw [show v = _ from h1, show w = _ from h2]
  exact ⟨i, j, rfl, q _ F H (Sub.refl F) rfl o⟩
theorem nuMin2_int (i j : Int) : nuMin2 (.int i) (.int j) = some (.int (M.mn i j)) := by
  unfold M.mn
  by_cases h : j < i
  · rw [if_pos h]; simp [nuMin2, nuLt, nuCB, h]
  · rw [if_neg h]; simp [nuMin2, nuLt, nuCB, h]
theorem min3 (ha : Ev K rs ta ds (.int i) rs1) (hb : Ev K rs1 tb ds (.int j) rs2) (hc : Ev K rs2 tc ds (.int k) rs3) : Ev K rs (tCB (rNuC3 nuMin3) (tCons ta (tCons tb (tCons tc tNil)))) ds (.int (M.mn (M.mn i j) k)) rs3 := cb (cons_ ha (cons_ hb (cons_ hc nil_))) fun xs F H dx o Q q => by
  obtain ⟨v, r1, rfl, h1, w, r2, rfl, h2, z, r3, rfl, h3, rfl⟩ := dx
  rw [show v = _ from h1, show w = _ from h2, show z = _ from h3]
  refine ⟨_, _, _, _, rfl, ?_, q _ F H (Sub.refl F) rfl o⟩
  unfold nuMin3
  rw [nuMin2_int]
  exact nuMin2_int _ _
/-- isinstance(x, T) -/
theorem isi {c : V} {tt uu : Value} {tD : TE} (ha : Ev K rs ta ds d rs1) (hb : ∀ σ H (Q : VK), Q c H → tD σ H Q) (hc : ClsV c uu) (ty : ∀ F H v, Sub F H → Dv K F d v → TyX K H v tt) (hk : PySem.W.kitOne K tt uu = some b) : Ev K rs (tCB (rIsi K) (tCons ta (tCons tD tNil))) ds (.bl b) rs1 := fun σ F H vs o Q q =>
  ha σ F H vs o _ fun v F1 H1 s1 dv o1 => hb σ H1 _ ⟨v, c, tt, uu, b, rfl, hc, ty F1 H1 v (ow_sub o1) dv, hk, q _ F1 H1 s1 rfl o1⟩
theorem tyInt {F H : Hp} {v : V} (_ : Sub F H) (h : Dv K F (.int i) v) : TyX K H v (.type "int") := by rw [show v = _ from h]; exact .base (.int i)
theorem tyBl {F H : Hp} {v : V} (_ : Sub F H) (h : Dv K F (.bl b) v) : TyX K H v (.type "bool") := by rw [show v = _ from h]; exact .base (.bl b)
theorem tyStr {F H : Hp} {v : V} {z : Str} (_ : Sub F H) (h : Dv K F (.str z) v) : TyX K H v (.type "str") := by rw [show v = _ from h]; exact .base (.str z)
theorem tyLst {F H : Hp} {v : V} {l : List Da} (s : Sub F H) (h : Dv K F (.list l) v) : TyX K H v (.type "list") := by
  obtain ⟨a, xs, rfl, h1, _⟩ := h
  exact .base (.lst (s _ _ h1))
theorem tyTup {F H : Hp} {v : V} {l : List Da} (s : Sub F H) (h : Dv K F (.tup l) v) : TyX K H v (.type "tuple") := by
  obtain ⟨a, xs, rfl, h1, _⟩ := h
  rcases sqt_up s h1 with (h2 | ⟨o, h2⟩) | ⟨o, its, n, hk, hc, _⟩
  · exact .base (.tup h2)
  · exact .fTuple h2
  · exact .kTuple hk hc
theorem cRun {c : V} : ∀ σ H (Q : VK), Q c H → (tC c) σ H Q := fun _ _ _ q => q
end
end Lg

namespace Lg
open PySem PySem.Spec PyProof.Rows L2 Wr
/-- an object owned as it is -/
def ptR (a : Addr) (u : HO) : Rs := ⟨fun _ => pt a u, fun _ _ _ _ h => h⟩
section
variable {K : PySem.W.Frag} {ds : List (Option Da)} {rs rs1 rs2 rs3 : List Rs} {ta : TA} {tl te : TE} {tt : TT} {d : Da} {jj : Nat} {n : Int} {F F' H : Hp} {σ : L2.St}
theorem vs_wipe {j : Nat} (h : Vs K F σ ds) : Vs K F (wipe σ [j]) (ds.set j none) := by
  refine ⟨by show (σ.set j none).length = _; rw [List.length_set, List.length_set]; exact h.1, fun i d e => ?_⟩
  show ∃ v, (σ.set j none)[i]? = _ ∧ _
  by_cases hj : j = i
  · subst hj
    by_cases hi : j < ds.length
    · rw [List.getElem?_set_self hi] at e; cases Option.some.inj e
    · rw [List.getElem?_eq_none (by rw [List.length_set]; omega)] at e; cases e
  · rw [List.getElem?_set_ne hj] at e ⊢
    exact h.2 i d e
theorem wipe_eq {σ : L2.St} {j : Nat} {x : V} : wipe ((wipe σ [j]).set j (some x)) [j] = wipe σ [j] := by
  show ((σ.set j none).set j (some x)).set j none = σ.set j none
  rw [List.set_set, List.set_set]
/-- the state of a comprehension: what it has made so far stands at Dl -/
def CwR (K : PySem.W.Frag) (F1 : Hp) (rs : List Rs) (Dl : Addr) (l : List Da) (H : Hp) : Prop := ∃ F acc, Sub F1 F ∧ Ow F (ptR Dl (.lst acc) :: rs) H ∧ DvAll K F l acc
theorem cw_new {Dl : Addr} (o : Ow F rs H) (n : H Dl = none) : CwR K F rs Dl [] (upd H Dl (.lst [])) :=
  ⟨F, [], Sub.refl F, own_swap (own_new o n), rfl⟩
theorem cw_done {Dl : Addr} {l : List Da} (c : CwR K F rs Dl l H) : ∃ F', Sub F F' ∧ Ow F' rs H ∧ Dv K F' (.list l) (.ref Dl) := by
  obtain ⟨F1, acc, s, o, dv⟩ := c
  obtain ⟨o2, x⟩ := ow_freeze (cs := []) (own_swap o)
  exact ⟨_, s.trans x, o2, Dl, acc, rfl, upd_same, DvAll.mono x _ _ dv⟩
theorem cw_turn {Dl : Addr} {l : List Da} {σ2 : L2.St} {b : Bool} {F1 : Hp} (hl : l.length < 90000) (c : CwR K F rs Dl l H) (sF : Sub F F) (hv : ∀ F', Sub F F' → Vs K F' σ2 ds)
    (ht : ∀ acc, EvT K (ptR Dl (.lst acc) :: rs) tt ds b (ptR Dl (.lst acc) :: rs)) (he : b = true → ∀ acc, Ev K (ptR Dl (.lst acc) :: rs) te ds d (ptR Dl (.lst acc) :: rs)) :
    tt σ2 H fun bb H3 => if bb = true then te σ2 H3 fun y H4 => ∃ acc, H4 Dl = some (.lst acc) ∧ acc.length < sizeLine ∧ CwR K F rs Dl (if b = true then l ++ [d] else l) (upd H4 Dl (.lst (acc ++ [y]))) else CwR K F rs Dl (if b = true then l ++ [d] else l) H3 := by
  obtain ⟨F1, acc, s, o, dv⟩ := c
  refine ht acc σ2 F1 H (hv F1 s) o _ fun F2 H2 s2 o2 => ?_
  cases e : b with
  | false =>
    rw [if_neg Bool.false_ne_true, if_neg Bool.false_ne_true]
    exact ⟨F2, acc, s.trans s2, o2, DvAll.mono s2 _ _ dv⟩
  | true =>
    rw [if_pos rfl, if_pos rfl]
    refine he e acc σ2 F2 H2 (hv F2 (s.trans s2)) o2 _ fun y F3 H3 s3 dy o3 => ?_
    have o4 := own_swap o3
    refine ⟨acc, pt_ok.mp (own_head o4), ?_, F3, acc ++ [y], (s.trans s2).trans s3, own_swap (own_upd o4), dvAll_app (DvAll.mono (s2.trans s3) _ _ dv) ⟨y, [], rfl, dy, rfl⟩⟩
    rw [dvAll_len dv]
    exact Evl.sz_lt (by omega)
/-- [e for k in range(n)] -/
theorem lcR (f : Nat → Da) (h : EvA K rs ta ds [.int n] rs) (hn : 0 ≤ n ∧ n ≤ 40000) (he : ∀ (i : Nat) Dl acc, (i : Int) < n → Ev K (ptR Dl acc :: rs) te ((ds.set jj none).set jj (some (.int (i : Int)))) (f i) (ptR Dl acc :: rs)) :
    Ev K rs (tLc (iRng1 ta) (gName jj) tYes te [jj]) ds (.list ((List.range n.toNat).map f)) rs := fun σ F H vs o Q q =>
  h σ F H vs o _ fun ws F1 H1 s1 dw o1 => by
    obtain ⟨v, rfl, hv⟩ := dv1 dw
    rw [show v = _ from hv]
    refine ⟨n, rfl, by omega, by omega, fun Dl hD => lc_range (lo := 0) (n := n.toNat) (fun i => CwR K F1 rs Dl ((List.range i).map f)) (cw_new o1 hD) (fun i H' hi c => ?_) (fun H' c => ?_)⟩
    · have e0 : (0 : Int) + (i : Int) = (i : Int) := Int.zero_add _
      show wipe ((wipe σ [jj]).set jj (some (.int ((0 : Int) + (i : Int))))) [jj] = wipe σ [jj] ∧ _
      rw [e0]
      refine ⟨wipe_eq, ?_⟩
      have z := cw_turn (K := K) (tt := tYes) (te := te) (b := true) (d := f i) (ds := (ds.set jj none).set jj (some (.int (i : Int)))) (σ2 := (wipe σ [jj]).set jj (some (.int (i : Int)))) (F1 := F1) (by rw [List.length_map, List.length_range]; omega) c (Sub.refl F1) (fun F' s => (vs_wipe ((vs.mono s1).mono s)).set rfl)
        (fun acc => fun σ F H vs o Q q => q F H (Sub.refl F) o) (fun _ acc => he i Dl _ (by omega))
      rw [if_pos rfl, ← List.map_singleton, ← List.map_append, ← List.range_succ] at z
      exact z
    · obtain ⟨F2, s2, o2, d2⟩ := cw_done c
      exact q _ F2 H' (s1.trans s2) d2 o2
theorem lcRi (g : Nat → Int) (h : EvA K rs ta ds [.int n] rs) (hn : 0 ≤ n ∧ n ≤ 40000) (he : ∀ (i : Nat) Dl acc, (i : Int) < n → Ev K (ptR Dl acc :: rs) te ((ds.set jj none).set jj (some (.int (i : Int)))) (.int (g i)) (ptR Dl acc :: rs)) :
    Ev K rs (tLc (iRng1 ta) (gName jj) tYes te [jj]) ds (li ((List.range n.toNat).map g)) rs := is_ (lcR (fun i => .int (g i)) h hn he) (by unfold li; rw [List.map_map]; rfl)
/-- [e for x in l if t] -/
theorem lcL (p : Da → Bool) (f : Da → Da) {l : List Da} (h : Ev K rs tl ds (.list l) rs) (hz : l.length ≤ 40000)
    (ht : ∀ x Dl acc, x ∈ l → EvT K (ptR Dl acc :: rs) tt ((ds.set jj none).set jj (some x)) (p x) (ptR Dl acc :: rs))
    (he : ∀ x Dl acc, x ∈ l → p x = true → Ev K (ptR Dl acc :: rs) te ((ds.set jj none).set jj (some x)) (f x) (ptR Dl acc :: rs)) :
    Ev K rs (tLc (iList K tl) (gName jj) tt te [jj]) ds (.list ((l.filter p).map f)) rs := fun σ F H vs o Q q =>
  h σ F H vs o _ fun v F1 H1 s1 dv o1 => by
    obtain ⟨a, xs, rfl, ha, hx⟩ := dv
    refine ⟨a, rfl, ⟨xs, .inl (.inl (ow_sub o1 _ _ ha))⟩, fun Dl hD => lc_list (K := K) (a := a) (xs := xs) (fun i => CwR K F1 rs Dl (((l.take i).filter p).map f)) (cw_new o1 hD) (fun i H' _ c => ?_) (fun i x H' hi c => ?_) (fun H' c => ?_)⟩
    · obtain ⟨F2, acc, s2, o2, _⟩ := c
      exact .inl (.inl (ow_sub o2 _ _ (s2 _ _ ha)))
    · refine ⟨wipe_eq, ?_⟩
      have hil : i < l.length := by rw [← dvAll_len hx]; exact (List.getElem?_eq_some_iff.mp hi).1
      have hl := List.getElem?_eq_getElem hil
      obtain ⟨w, g1, g2⟩ := dvAll_get hx hl
      rw [g1] at hi
      obtain rfl := Option.some.inj hi
      have hm : l[i] ∈ l := List.getElem_mem hil
      have z := cw_turn (K := K) (tt := tt) (te := te) (b := p l[i]) (d := f l[i]) (ds := (ds.set jj none).set jj (some l[i])) (σ2 := (wipe σ [jj]).set jj (some w)) (F1 := F1)
        (by rw [List.length_map]; exact Nat.lt_of_le_of_lt (List.length_filter_le _ _) (by rw [List.length_take]; omega)) c (Sub.refl F1) (fun F' s => (vs_wipe ((vs.mono s1).mono s)).set (Dv.mono s _ _ g2))
        (fun acc => ht _ Dl _ hm) (fun hp acc => he _ Dl _ hm hp)
      rw [show (((l.take (i + 1)).filter p).map f) = if p l[i] = true then ((l.take i).filter p).map f ++ [f l[i]] else ((l.take i).filter p).map f from by
        rw [List.take_succ, hl, List.filter_append]
        cases hp : p l[i] with
        | true => simp [hp]
        | false => simp [hp]]
      exact z
    · rw [dvAll_len hx, List.take_length] at c
      obtain ⟨F2, s2, o2, d2⟩ := cw_done c
      exact q _ F2 H' (s1.trans s2) d2 o2
theorem lcLi (g : Int → Int) {l : List Int} (h : Ev K rs tl ds (li l) rs) (hz : l.length ≤ 40000)
    (he : ∀ x Dl acc, x ∈ l → Ev K (ptR Dl acc :: rs) te ((ds.set jj none).set jj (some (.int x))) (.int (g x)) (ptR Dl acc :: rs)) : Ev K rs (tLc (iList K tl) (gName jj) tYes te [jj]) ds (li (l.map g)) rs :=
  is_ (lcL (fun _ => true) (fun d => match d with | .int n => .int (g n) | d => d) h (by rw [List.length_map]; exact hz) (fun _ _ _ _ => fun σ F H vs o Q q => q F H (Sub.refl F) o)
    (fun x Dl acc hm _ => by
      obtain ⟨n, hn, rfl⟩ := List.mem_map.mp hm
      exact he n Dl acc hn)) (by rw [List.filter_eq_self.mpr (fun _ _ => rfl), List.map_map]; unfold li; rw [List.map_map]; rfl)
/-- a list of bools from ints -/
theorem lcLb (g : Int → Bool) {l : List Int} (h : Ev K rs tl ds (li l) rs) (hz : l.length ≤ 40000)
    (he : ∀ x Dl acc, x ∈ l → Ev K (ptR Dl acc :: rs) te ((ds.set jj none).set jj (some (.int x))) (.bl (g x)) (ptR Dl acc :: rs)) : Ev K rs (tLc (iList K tl) (gName jj) tYes te [jj]) ds (.list ((l.map g).map Da.bl)) rs :=
  is_ (lcL (fun _ => true) (fun d => match d with | .int n => .bl (g n) | d => d) h (by rw [List.length_map]; exact hz) (fun _ _ _ _ => fun σ F H vs o Q q => q F H (Sub.refl F) o)
    (fun x Dl acc hm _ => by
      obtain ⟨n, hn, rfl⟩ := List.mem_map.mp hm
      exact he n Dl acc hn)) (by rw [List.filter_eq_self.mpr (fun _ _ => rfl), List.map_map]; congr 1; rw [List.map_map]; rfl)
theorem dvAll_bl {F : Hp} : ∀ {l : List Bool} {xs : List V}, DvAll K F (l.map Da.bl) xs → xs = l.map V.bl
  | [], _, h => h
  | b :: l, _, ⟨v, vs, e, h, r⟩ => by rw [e, show v = _ from h, dvAll_bl r]; rfl
theorem all_ {l : List Bool} (h : Ev K rs te ds (.list (l.map Da.bl)) rs1) : Ev K rs (tCB (rAll K) (tCons te tNil)) ds (.bl (l.all id)) rs1 := cb (cons_ h nil_) fun xs F H dx o Q q => by
  obtain ⟨v, rfl, a, ys, rfl, h1, h2⟩ := dv1 dx
  rw [dvAll_bl h2] at h1
  exact ⟨a, l, rfl, .inl (.inl (ow_sub o _ _ h1)), q _ F H (Sub.refl F) rfl o⟩
theorem sum_ {l : List Int} (h : Ev K rs te ds (li l) rs1) : Ev K rs (tCB (rSum K) (tCons te tNil)) ds (.int l.sum) rs1 := cb (cons_ h nil_) fun xs F H dx o Q q => by
  obtain ⟨v, rfl, h1⟩ := dv1 dx
  obtain ⟨a, rfl, h2⟩ := dv_li h1
  exact ⟨a, l, rfl, .inl (.inl (ow_sub o _ _ h2)), q _ F H (Sub.refl F) rfl o⟩
/-- all([f(x) for x in xs]) over a tuple of ints -/
theorem lcTb (g : Int → Bool) {l : List Int} (h : Ev K rs tl ds (ti l) rs) (hz : l.length ≤ 40000)
    (he : ∀ x Dl acc, x ∈ l → Ev K (ptR Dl acc :: rs) te ((ds.set jj none).set jj (some (.int x))) (.bl (g x)) (ptR Dl acc :: rs)) : Ev K rs (tLc (iTup K tl) (gName jj) tYes te [jj]) ds (.list ((l.map g).map Da.bl)) rs := fun σ F H vs o Q q =>
  h σ F H vs o _ fun v F1 H1 s1 dv o1 => by
    obtain ⟨a, xs, rfl, ha, hx⟩ := dv
    obtain rfl := dvAll_int.mp hx
    refine ⟨a, rfl, ⟨_, sqt_up (ow_sub o1) ha⟩, fun Dl hD => lc_tup (K := K) (a := a) (xs := l.map V.int) (fun i => CwR K F1 rs Dl (((l.take i).map g).map Da.bl)) (cw_new o1 hD) (fun i H' _ c => ?_) (fun i x H' hi c => ?_) (fun H' c => ?_)⟩
    · obtain ⟨F2, acc, s2, o2, _⟩ := c
      exact sqt_up (ow_sub o2) (sqt_up s2 ha)
    · refine ⟨wipe_eq, ?_⟩
      obtain ⟨g1, rfl⟩ := getD_map hi
      have hm := List.mem_of_getElem? g1
      have z := cw_turn (K := K) (tt := tYes) (te := te) (b := true) (d := .bl (g (l.getD i 0))) (ds := (ds.set jj none).set jj (some (.int (l.getD i 0)))) (σ2 := (wipe σ [jj]).set jj (some (V.int (l.getD i 0)))) (F1 := F1)
        (by rw [List.length_map, List.length_map, List.length_take]; omega) c (Sub.refl F1) (fun F' s => (vs_wipe ((vs.mono s1).mono s)).set rfl)
        (fun acc => fun σ F H vs o Q q => q F H (Sub.refl F) o) (fun _ acc => he _ Dl _ hm)
      rw [if_pos rfl] at z
      rw [List.take_succ, g1, List.map_append, List.map_append]
      exact z
    · rw [List.length_map, List.take_length] at c
      obtain ⟨F2, s2, o2, d2⟩ := cw_done c
      exact q _ F2 H' (s1.trans s2) d2 o2
end
end Lg
namespace Lg
open PySem PySem.Spec PyProof.Rows L2 Wr
section
variable {K : PySem.W.Frag} {ds : List (Option Da)} {rs rs1 rs2 rs3 : List Rs} {ta tb tc te : TE} {i j k : Int} {b : Bool}
theorem eqV_int (x y : Int) : eqV (.int y) (.int x) = decide (x = y) := by
  show (y == x) = _
  by_cases h : x = y
  · subst h; rw [beq_self_eq_true, decide_eq_true rfl]
  · rw [decide_eq_false h]; exact beq_false_of_ne fun e => h e.symm
/-- x in (a, b), ints -/
theorem inI2 (ha : Ev K rs ta ds (.int i) rs1) (hb : Ev K rs1 tb ds (.int j) rs2) (hc : Ev K rs2 tc ds (.int k) rs3) : Ev K rs (tOp (rIn K false) ta (tTup (tCons tb (tCons tc tNil)))) ds (.bl (decide (i = j) || decide (i = k))) rs3 :=
  op ha (tup_ (cons_ hb (cons_ hc nil_)) (sz rfl)) fun x y F H hx hy o Q q => by
    obtain ⟨a, xs, rfl, h1, v, r1, rfl, g1, w, r2, rfl, g2, rfl⟩ := hy
    rw [show x = _ from hx, show v = _ from g1, show w = _ from g2] at *
    refine ⟨a, _, rfl, .inr (sqt_up (ow_sub o) h1), rfl, rfl, ?_⟩
    show Q (.bl (eqV (.int j) (.int i) || (eqV (.int k) (.int i) || false))) H
    rw [eqV_int, eqV_int, Bool.or_false]
    exact q _ F H (Sub.refl F) rfl o
theorem niI2 (ha : Ev K rs ta ds (.int i) rs1) (hb : Ev K rs1 tb ds (.int j) rs2) (hc : Ev K rs2 tc ds (.int k) rs3) : Ev K rs (tOp (rIn K true) ta (tTup (tCons tb (tCons tc tNil)))) ds (.bl (!(decide (i = j) || decide (i = k)))) rs3 :=
  op ha (tup_ (cons_ hb (cons_ hc nil_)) (sz rfl)) fun x y F H hx hy o Q q => by
    obtain ⟨a, xs, rfl, h1, v, r1, rfl, g1, w, r2, rfl, g2, rfl⟩ := hy
    rw [show x = _ from hx, show v = _ from g1, show w = _ from g2] at *
    refine ⟨a, _, rfl, .inr (sqt_up (ow_sub o) h1), rfl, rfl, ?_⟩
    show Q (.bl (!(eqV (.int j) (.int i) || (eqV (.int k) (.int i) || false)))) H
    rw [eqV_int, eqV_int, Bool.or_false]
    exact q _ F H (Sub.refl F) rfl o
theorem isB (ha : Ev K rs ta ds (.bl b) rs1) {c : Bool} : Ev K rs (tOp rIsB ta (tC (.bl c))) ds (.bl (decide (b = c))) rs1 := op ha cBl fun x y F H hx hy o Q q => ⟨b, c, hx, hy, q _ F H (Sub.refl F) rfl o⟩
theorem notB (ha : Ev K rs ta ds (.bl b) rs1) {c : Bool} : Ev K rs (tOp rNotB ta (tC (.bl c))) ds (.bl (!decide (b = c))) rs1 := op ha cBl fun x y F H hx hy o Q q => ⟨b, c, hx, hy, q _ F H (Sub.refl F) rfl o⟩
end
end Lg

namespace M
def at_ (row : List Int) (i : Nat) : Int := row.getD i 0
def isRight (row : List Int) : Bool :=
  if (decide ((row.length : Int) < 20) || (!(decide (at_ row 12 = 80) || decide (at_ row 12 = 96)) || decide (31 < at_ row 13))) = true then false else
    if (decide ((row.length : Int) < at_ row 12 / 4) || (decide (16 < (row.length : Int) - at_ row 12 / 4) || (!decide (at_ row 18 = 0) || !decide (at_ row 19 = 0)))) = true then false else
      if decide (at_ row 12 / 4 = 24) = true then
        (if (decide (at_ row 13 / 2 % 2 = 0) || (!decide (at_ row 20 = 2) || (!decide (at_ row 21 = 4) || decide (number_of (sl row (some 22) (some 24)) < 4)))) = true then false else decide (folded row = 65535))
      else decide (folded row = 65535)
def getS (row : List Int) : Seg :=
  { src := number_of (sl row (some 0) (some 2)), goal := number_of (sl row (some 2) (some 4)), num := number_of (sl row (some 4) (some 8)), ans := number_of (sl row (some 8) (some 12)), flags := at_ row 13,
    win := number_of (sl row (some 14) (some 16)), most := if decide (at_ row 12 / 4 = 24) = true then number_of (sl row (some 22) (some 24)) else 0, data := sl row (some (at_ row 12 / 4)) none }
def get (row : List Int) : Option Seg := if isRight row = true then some (getS row) else none
/-! ### the laws' helpers -/
def isByte (n : Int) : Bool := decide (0 ≤ n) && decide (n ≤ 255)
def lread (row : List Int) : Option Seg :=
  if decide ((row.length : Int) < 20) = true then none else
    if (!(row.map isByte).all id) = true then none else
      if (!(decide (at_ row 12 = 80) || decide (at_ row 12 = 96)) || (decide (31 < at_ row 13) || decide (0 < at_ row 18 + at_ row 19))) = true then none else
        if (!(decide (at_ row 12 / 4 ≤ (row.length : Int)) && decide ((row.length : Int) ≤ at_ row 12 / 4 + 16)) || !decide (folded row = 65535)) = true then none else
          if decide (at_ row 12 / 4 = 24) = true then
            (if (decide (at_ row 13 / 2 % 2 = 0) || (!decide (sl row (some 20) (some 22) = [2, 4]) || decide (at_ row 22 * 256 + at_ row 23 < 4))) = true then none else some (lseg row (at_ row 22 * 256 + at_ row 23)))
          else some (lseg row 0)
where lseg (row : List Int) (most : Int) : Seg :=
  { src := 256 * at_ row 0 + at_ row 1, goal := 256 * at_ row 2 + at_ row 3, num := (256 * at_ row 4 + at_ row 5) * 65536 + (256 * at_ row 6 + at_ row 7), ans := (256 * at_ row 8 + at_ row 9) * 65536 + (256 * at_ row 10 + at_ row 11),
    flags := at_ row 13, win := 256 * at_ row 14 + at_ row 15, most := most, data := sl row (some (at_ row 12 / 4)) none }
/-- any segment -/
def anyNum (n : Int) : Int := if decide (n % 3 = 0) = true then ([0, 1, 4294967295, 4294967294, 2147483648, 65535, 65536] : List Int).getD (n / 3 % 7).toNat 0 else n
def anyFlags (ns : List Int) (b : Int) : Int := mix ns b % 32
def anyMost (ns : List Int) (b : Int) : Int :=
  if (decide (anyFlags ns b / 2 % 2 = 1) && decide (0 < mix ns (b + 1) % 3)) = true then
    (let m := ([4, 5, 16, 536, 65535, 0] : List Int).getD (mix ns (b + 3) % 6).toNat 0
     if decide (m = 0) = true then 4 + mix ns (b + 2) % 65532 else m)
  else 0
def anySize (ns : List Int) (b : Int) : Int :=
  let z := ([0, 1, 15, 16, 7] : List Int).getD (mix ns (b + 9) % 5).toNat 0
  if decide (z = 7) = true then mix ns (b + 8) % 17 else z
def anyData (ns : List Int) (b : Int) : List Int :=
  if decide (mix ns (b + 27) % 5 = 0) = true then List.replicate (anySize ns b).toNat 255 else (List.range (anySize ns b).toNat).map fun k : Nat => mix ns (b + 10 + (k : Int)) / 7 % 256
def any (ns : List Int) (b : Int) : Seg :=
  { src := mix ns (b + 6) % 65536, goal := mix ns (b + 7) % 65536, num := anyNum (mix ns (b + 4)), ans := anyNum (mix ns (b + 5)), flags := anyFlags ns b, win := mix ns (b + 28) % 65536, most := anyMost ns b, data := anyData ns b }
end M
namespace Lg
open PySem PySem.Spec PyProof.Rows L2 Wr
def RP (f : List Da → Da → Prop) : List Da → List Rs → Da → List Rs → Prop := fun l rs d rs' => f l d ∧ rs' = rs
def f_has (l : List Da) (d : Da) : Prop := ∃ s f, l = [sg s, .int f] ∧ (0 < f ∧ f ≤ 1000) ∧ d = .bl (M.has s f)
def f_length (l : List Da) (d : Da) : Prop := ∃ s, l = [sg s] ∧ d = .int (M.length s)
def f_put (l : List Da) (d : Da) : Prop := ∃ s, l = [sg s] ∧ s.data.length ≤ 1000 ∧ d = li (M.put s)
def f_isRight (l : List Da) (d : Da) : Prop := ∃ row, l = [li row] ∧ row.length ≤ 10000 ∧ d = .bl (M.isRight row)
def f_lfolded (l : List Da) (d : Da) : Prop := ∃ row, l = [li row] ∧ row.length ≤ 10000 ∧ d = .int (M.folded row)
def f_byte (l : List Da) (d : Da) : Prop := ∃ n, l = [.int n] ∧ d = .bl (M.isByte n)
def f_lread (l : List Da) (d : Da) : Prop := ∃ row, l = [li row] ∧ row.length ≤ 10000 ∧ d = osg (M.lread row)
def f_any (l : List Da) (d : Da) : Prop := ∃ ns b, l = [.scr ns, .int b] ∧ d = sg (M.any ns b)
def f_wholes (l : List Da) (d : Da) : Prop := ∃ row, l = [li row] ∧ row.length ≤ 10000 ∧ d = .bl true
end Lg

namespace Lg
open PySem PySem.Spec PyProof.Rows L2 Wr
/-- a list that is owned: it may grow -/
def ol (K : PySem.W.Frag) (p : Addr) (l : List Da) : Rs := ⟨fun F => exk fun xs => sep [pt p (.lst xs), pur (DvAll K F l xs)], fun F F' H s h => by
  obtain ⟨xs, h⟩ := exk_ok.mp h
  have o := sep_ok.mp h
  have d := pur_ok.mp (own_head (own_tail o))
  exact exk_ok.mpr ⟨xs, sep_ok.mpr (own_swap (own_pur.mpr ⟨DvAll.mono s _ _ d, own_tail (own_swap o)⟩))⟩⟩
section
variable {K : PySem.W.Frag} {F0 F H : Hp} {D : Ends} {ds : List (Option Da)} {rs rs1 rs2 rs3 : List Rs} {ta tb tc te : TE} {tz t : TS} {d : Da} {l m : List Da} {p : Addr} {ii : Nat} {r : Rs}
theorem ow_swap {r q : Rs} (o : Ow F (r :: q :: rs) H) : Ow F (q :: r :: rs) H := own_tl (fun _ o => own_swap o) o
theorem pick_map {r : Rs} {rs rest : List Rs} (h : Pick r rs rest) : Pick (r.ck F) (rs.map fun r => r.ck F) (rest.map fun r => r.ck F) := by
  induction h with
  | here => exact .here
  | there _ ih => exact .there ih
theorem ow_pick {r : Rs} {rs rest : List Rs} (h : Pick r rs rest) (o : Ow F rs H) : Ow F (r :: rest) H := own_tl (fun _ o2 => own_pick (pick_map h) o2) o
theorem ow_back {r : Rs} {rs rest : List Rs} (h : Pick r rs rest) (o : Ow F (r :: rest) H) : Ow F rs H := own_tl (fun _ o2 => own_back (pick_map h) o2) o
theorem g_pick {rest : List Rs} (h : Pick r rs rest) (k : G K F0 t D ds (r :: rest)) : G K F0 t D ds rs := fun σ F H s vs o => k σ F H s vs (ow_pick h o)
theorem g_unpick {rest : List Rs} (h : Pick r rs rest) (k : G K F0 t D ds rs) : G K F0 t D ds (r :: rest) := fun σ F H s vs o => k σ F H s vs (ow_back h o)
/-- one owned thing is forgotten -/
theorem g_lose (k : G K F0 t D ds rs) : G K F0 t D ds (r :: rs) := fun σ F H s vs o => k σ F H s vs (own_tail (own_swap o))
theorem ol_mk {xs : List V} (o : Own (pt p (.lst xs) :: fz F :: rs.map fun r => r.ck F) H) (h : DvAll K F l xs) : Ow F (ol K p l :: rs) H :=
  own_swap (own_ex.mpr ⟨xs, own_sep.mpr (own_tl (fun _ o2 => own_pur.mpr ⟨h, o2⟩) o)⟩)
theorem ol_out (o : Ow F (ol K p l :: rs) H) : ∃ xs, DvAll K F l xs ∧ Own (pt p (.lst xs) :: fz F :: rs.map fun r => r.ck F) H := by
  obtain ⟨xs, o2⟩ := own_ex.mp (own_swap o)
  have o3 := own_sep.mp o2
  have o4 := own_swap o3
  obtain ⟨h, o5⟩ := own_pur.mp o4
  exact ⟨xs, h, o5⟩
/-- the value is a new list, owned -/
def EvN (K : PySem.W.Frag) (rs : List Rs) (t : TE) (ds : List (Option Da)) (l : List Da) (rs' : List Rs) : Prop :=
  ∀ σ F H, Vs K F σ ds → Ow F rs H → ∀ Q : VK, (∀ p F' H', Sub F F' → Ow F' (ol K p l :: rs') H' → Q (.ref p) H') → t σ H Q
theorem catN (ha : Ev K rs ta ds (.list l) rs1) (hb : Ev K rs1 tb ds (.list m) rs2) (hz : l.length + m.length ≤ 100000) : EvN K rs (tOp rCat ta tb) ds (l ++ m) rs2 := fun σ F H vs o Q q =>
  ha σ F H vs o _ fun x F1 H1 s1 dx o1 => hb σ F1 H1 (vs.mono s1) o1 _ fun y F2 H2 s2 dy o2 => by
    obtain ⟨a, xs, rfl, h1, h2⟩ := Dv.mono s2 _ _ dx
    obtain ⟨b, ys, rfl, h3, h4⟩ := dy
    refine ⟨a, b, xs, ys, rfl, rfl, ow_sub o2 _ _ h1, ow_sub o2 _ _ h3, by rw [dvAll_len h2, dvAll_len h4]; exact Evl.sz_of hz, fun p hp => ?_⟩
    exact q p F2 _ (s1.trans s2) (ol_mk (own_new o2 hp) (dvAll_app h2 h4))
theorem listN {ta : TA} (h : EvA K rs ta ds l rs1) (hz : l.length ≤ 100000) : EvN K rs (tLst ta) ds l rs1 := fun σ F H vs o Q q =>
  h σ F H vs o _ fun ws F1 H1 s1 dw o1 => ⟨by rw [dvAll_len dw]; exact Evl.sz_of hz, fun p hp => q p F1 _ s1 (ol_mk (own_new o1 hp) dw)⟩
theorem isN {l' : List Da} (h : EvN K rs te ds l rs1) (e : l = l') : EvN K rs te ds l' rs1 := e ▸ h
theorem g_own (h : EvN K rs te ds l rs1) (k : ∀ p, G K F0 tz D (ds.set ii (some (.ref p))) (ol K p l :: rs1)) : G K F0 (tSeq (tAsg te (gName ii)) tz) D ds rs := fun σ F H s vs o =>
  h σ F H vs o _ fun p F1 H1 s1 o1 => k p _ F1 H1 (s.trans s1) ((vs.mono s1).set rfl) o1
theorem ol_freeze (o : Ow F (ol K p l :: rs) H) : ∃ F', Sub F F' ∧ Ow F' rs H ∧ Dv K F' (.list l) (.ref p) := by
  obtain ⟨xs, h, o2⟩ := ol_out o
  obtain ⟨o3, x⟩ := ow_freeze (cs := []) o2
  exact ⟨_, x, o3, p, xs, rfl, upd_same, DvAll.mono x _ _ h⟩
theorem g_freeze (hi : ds[ii]? = some (some (.ref p))) (k : G K F0 t D (ds.set ii (some (.list l))) rs) : G K F0 t D ds (ol K p l :: rs) := fun σ F H s vs o => by
  obtain ⟨F', x, o2, dv⟩ := ol_freeze o
  obtain ⟨v, h1, h2⟩ := vs.2 _ _ hi
  have z := (vs.mono x).set (i := ii) dv
  have e : σ.set ii (some (V.ref p)) = σ := by
    rw [show v = V.ref p from h2] at h1
    refine List.ext_getElem? fun m => ?_
    by_cases hm : ii = m
    · subst hm
      rw [List.getElem?_set_self (List.getElem?_eq_some_iff.mp h1).1, h1]
    · rw [List.getElem?_set_ne hm]
  rw [e] at z
  exact k σ F' H (s.trans x) z o2
theorem g_app (hi : ds[ii]? = some (some (.ref p))) (h : Ev K (ol K p l :: rs) te ds d (ol K p l :: rs1)) (hz : l.length < 100000) (k : G K F0 tz D ds (ol K p (l ++ [d]) :: rs1)) :
    G K F0 (tSeq (tDrop (tBM K "list" rAppend (tVar ii) (tCons te tNil))) tz) D ds (ol K p l :: rs) := fun σ F H s vs o => by
  obtain ⟨v, h1, h2⟩ := vs.2 _ _ hi
  rw [show v = V.ref p from h2] at h1
  obtain ⟨xs, _, o2⟩ := ol_out o
  refine ⟨_, h1, .inl ⟨rfl, xs, .inl (.inl (pt_ok.mp (own_head o2)))⟩, ?_⟩
  refine h σ F H vs o _ fun y F1 H1 s1 dy o1 => ?_
  obtain ⟨ys, hy, o3⟩ := ol_out o1
  refine ⟨p, ys, y, rfl, rfl, pt_ok.mp (own_head o3), by rw [dvAll_len hy]; exact Evl.sz_lt hz, ?_⟩
  exact k _ F1 _ (s.trans s1) (vs.mono s1) (ol_mk (own_upd o3) (dvAll_app hy ⟨y, [], rfl, dy, rfl⟩))
theorem g_ext (hi : ds[ii]? = some (some (.ref p))) (h : Ev K (ol K p l :: rs) te ds (.list m) (ol K p l :: rs1)) (hz : l.length + m.length ≤ 100000) (k : G K F0 tz D ds (ol K p (l ++ m) :: rs1)) :
    G K F0 (tSeq (tDrop (tBM K "list" rExtend (tVar ii) (tCons te tNil))) tz) D ds (ol K p l :: rs) := fun σ F H s vs o => by
  obtain ⟨v, h1, h2⟩ := vs.2 _ _ hi
  rw [show v = V.ref p from h2] at h1
  obtain ⟨xs, _, o2⟩ := ol_out o
  refine ⟨_, h1, .inl ⟨rfl, xs, .inl (.inl (pt_ok.mp (own_head o2)))⟩, ?_⟩
  refine h σ F H vs o _ fun y F1 H1 s1 dy o1 => ?_
  obtain ⟨a, zs, rfl, ha, hm⟩ := dy
  obtain ⟨ys, hy, o3⟩ := ol_out o1
  refine ⟨p, a, ys, zs, rfl, rfl, pt_ok.mp (own_head o3), ow_sub o1 _ _ ha, by rw [dvAll_len hy, dvAll_len hm]; exact Evl.sz_of hz, ?_⟩
  exact k _ F1 _ (s.trans s1) (vs.mono s1) (ol_mk (own_upd o3) (dvAll_app hy hm))
theorem g_extT (hi : ds[ii]? = some (some (.ref p))) (h : Ev K (ol K p l :: rs) te ds (.tup m) (ol K p l :: rs1)) (hz : l.length + m.length ≤ 100000) (k : G K F0 tz D ds (ol K p (l ++ m) :: rs1)) :
    G K F0 (tSeq (tDrop (tBM K "list" (rExtendT K) (tVar ii) (tCons te tNil))) tz) D ds (ol K p l :: rs) := fun σ F H s vs o => by
  obtain ⟨v, h1, h2⟩ := vs.2 _ _ hi
  rw [show v = V.ref p from h2] at h1
  obtain ⟨xs, _, o2⟩ := ol_out o
  refine ⟨_, h1, .inl ⟨rfl, xs, .inl (.inl (pt_ok.mp (own_head o2)))⟩, ?_⟩
  refine h σ F H vs o _ fun y F1 H1 s1 dy o1 => ?_
  obtain ⟨a, zs, rfl, ha, hm⟩ := dy
  obtain ⟨ys, hy, o3⟩ := ol_out o1
  refine ⟨p, a, ys, zs, rfl, rfl, pt_ok.mp (own_head o3), sqt_up (ow_sub o1) ha, by rw [dvAll_len hy, dvAll_len hm]; exact Evl.sz_of hz, ?_⟩
  exact k _ F1 _ (s.trans s1) (vs.mono s1) (ol_mk (own_upd o3) (dvAll_app hy hm))
end
end Lg
namespace Lg
open PySem PySem.Spec PyProof.Rows L2 Wr
section
variable {K : PySem.W.Frag} {F0 F H : Hp} {D : Ends} {ds : List (Option Da)} {rs rs1 rs2 rs3 : List Rs} {ta tb tc te : TE} {tz t tw : TS} {d : Da} {l m : List Int} {p : Addr} {ii : Nat} {r : Rs} {i : Int}
theorem g_seq (k : G K F0 tw { D with nx := tz D } ds rs) : G K F0 (tSeq tw tz) D ds rs := k
theorem catNi (ha : Ev K rs ta ds (li l) rs1) (hb : Ev K rs1 tb ds (li m) rs2) (hz : l.length + m.length ≤ 100000) : EvN K rs (tOp rCat ta tb) ds ((l ++ m).map Da.int) rs2 :=
  isN (catN ha hb (by rw [List.length_map, List.length_map]; exact hz)) List.map_append.symm
theorem listNi {ta : TA} (h : EvA K rs ta ds (l.map Da.int) rs1) (hz : l.length ≤ 100000) : EvN K rs (tLst ta) ds (l.map Da.int) rs1 := listN h (by rw [List.length_map]; exact hz)
theorem g_freezeI (hi : ds[ii]? = some (some (.ref p))) (k : G K F0 t D (ds.set ii (some (li l))) rs) : G K F0 t D ds (ol K p (l.map Da.int) :: rs) := g_freeze hi k
theorem g_extI (hi : ds[ii]? = some (some (.ref p))) (h : Ev K (ol K p (l.map Da.int) :: rs) te ds (li m) (ol K p (l.map Da.int) :: rs1)) (hz : l.length + m.length ≤ 100000) (k : G K F0 tz D ds (ol K p ((l ++ m).map Da.int) :: rs1)) :
    G K F0 (tSeq (tDrop (tBM K "list" rExtend (tVar ii) (tCons te tNil))) tz) D ds (ol K p (l.map Da.int) :: rs) := g_ext hi h (by rw [List.length_map, List.length_map]; exact hz) (by rw [← List.map_append]; exact k)
theorem g_extI1 (hi : ds[ii]? = some (some (.ref p))) (h : Ev K (ol K p (l.map Da.int) :: rs) te ds (li m) (ol K p (l.map Da.int) :: rs1)) (hz : l.length + m.length ≤ 100000) (k : G K F0 tNext D ds (ol K p ((l ++ m).map Da.int) :: rs1)) :
    G K F0 (tDrop (tBM K "list" rExtend (tVar ii) (tCons te tNil))) D ds (ol K p (l.map Da.int) :: rs) := g_extI (tz := tNext) hi h hz k
theorem g_extTi (hi : ds[ii]? = some (some (.ref p))) (h : Ev K (ol K p (l.map Da.int) :: rs) te ds (ti m) (ol K p (l.map Da.int) :: rs1)) (hz : l.length + m.length ≤ 100000) (k : G K F0 tz D ds (ol K p ((l ++ m).map Da.int) :: rs1)) :
    G K F0 (tSeq (tDrop (tBM K "list" (rExtendT K) (tVar ii) (tCons te tNil))) tz) D ds (ol K p (l.map Da.int) :: rs) := g_extT hi h (by rw [List.length_map, List.length_map]; exact hz) (by rw [← List.map_append]; exact k)
end
end Lg
namespace M
def headA (s : Seg) : List Int := two s.src ++ two s.goal ++ four s.num ++ four s.ans ++ [(5 + b2i (decide (0 < s.most))) * 16, s.flags] ++ (two s.win ++ [0, 0, 0, 0])
theorem headA_len (s : Seg) : (headA s).length = 20 := rfl
theorem head_yes {s : Seg} (h : decide (0 < s.most) = true) : head s = headA s ++ ([2, 4] ++ two s.most) := by unfold head; rw [if_pos h]; rfl
theorem head_no {s : Seg} (h : decide (0 < s.most) = false) : head s = headA s := by
  show headA s ++ (if decide (0 < s.most) = true then _ else _) = headA s
  rw [if_neg (by rw [h]; exact Bool.false_ne_true), List.append_nil]
theorem sl_to (row : List Int) (n : Nat) : sl row none (some (n : Int)) = row.take n := by
  unfold sl
  rw [HT.sIx_none, HT.sIx_nat, List.drop_zero, Nat.sub_zero]
  by_cases h : n ≤ row.length
  · rw [Nat.min_eq_left h]
  · rw [Nat.min_eq_right (by omega), List.take_of_length_le (Nat.le_refl _), List.take_of_length_le (by omega)]
theorem sl_from (row : List Int) (n : Nat) : sl row (some (n : Int)) none = row.drop n := by
  unfold sl
  rw [HT.sIx_none, HT.sIx_nat]
  by_cases h : n ≤ row.length
  · rw [Nat.min_eq_left h, List.take_of_length_le (by rw [List.length_drop]; exact Nat.le_refl _)]
  · rw [Nat.min_eq_right (by omega), List.drop_of_length_le (Nat.le_refl _), List.take_nil, List.drop_of_length_le (by omega)]
theorem sl_mid (row : List Int) (a b : Nat) : sl row (some (a : Int)) (some (b : Int)) = (row.drop a).take (b - a) := by
  unfold sl
  rw [HT.sIx_nat, HT.sIx_nat]
  by_cases h : a ≤ row.length
  · rw [Nat.min_eq_left h]
    by_cases h2 : b ≤ row.length
    · rw [Nat.min_eq_left h2]
    · rw [Nat.min_eq_right (show row.length ≤ b by omega), List.take_of_length_le (by rw [List.length_drop]; exact Nat.le_refl _), List.take_of_length_le (by rw [List.length_drop]; omega)]
  · rw [Nat.min_eq_right (show row.length ≤ a by omega), List.drop_of_length_le (Nat.le_refl _), List.drop_of_length_le (show row.length ≤ a by omega), List.take_nil, List.take_nil]
theorem put_eq (s : Seg) : put s = sl (head s ++ s.data) none (some 16) ++ two (sum_of (head s ++ s.data)) ++ sl (head s ++ s.data) (some 18) none := by
  rw [show (16 : Int) = ((16 : Nat) : Int) from rfl, show (18 : Int) = ((18 : Nat) : Int) from rfl, sl_to, sl_from]; rfl
end M

namespace Wr
open PySem PySem.Spec PyProof.Rows L2
/-- t * 1: the same tuple -/
theorem tup_mul_one (l : Addr) (its : Array Value) (n : Nat) (dd : Option Addr) (sl : Array (Option Value)) (u : Tok) :
    Meets (Builtin.«tuple.__mul__» ⟨[.ref l, .int 1 u], []⟩) (fun _ R s => s.heap.get? l = some { cls := .type "tuple", dict := dd, data := .seq its n, slots := sl } ∧ R (.ok (.ret (.ref l))) s) :=
  .of_wp fun prog w A R s h => by
    obtain ⟨hp, g, d, tk, os⟩ := s
    obtain ⟨hl, h⟩ := h
    have i1 := AutoSeq1.idx_int
    wp_walk using AutoSeq1.wpAny_loadPart' hl
    exact ⟨_, rfl, h⟩
theorem tup_mul_zero (l : Addr) (its : Array Value) (n : Nat) (dd : Option Addr) (sl : Array (Option Value)) (u : Tok) (hne : its.isEmpty = false) :
    Meets (Builtin.«tuple.__mul__» ⟨[.ref l, .int 0 u], []⟩) (fun _ R s => s.heap.get? l = some { cls := .type "tuple", dict := dd, data := .seq its n, slots := sl } ∧
      R (.ok (.ret (.ref s.heap.objs.size))) { s with heap := s.heap.push { cls := .type "tuple", data := .seq #[] } }) :=
  .of_wp fun prog w A R s h => by
    obtain ⟨hp, g, d, tk, os⟩ := s
    obtain ⟨hl, h⟩ := h
    have i1 := AutoSeq1.idx_int
    wp_walk using AutoSeq1.wpAny_loadPart' hl
    exact ⟨_, rfl, h⟩
/-- t * k, k from 0 to 1000 -/
def rRepN (K : PySem.W.Frag) : R2 := fun x y H Q => ∃ (l : Addr) (k : Int) (xs : List V), x = .ref l ∧ y = .int k ∧ SqT K H l xs ∧ xs ≠ [] ∧ 0 ≤ k ∧ k ≤ 1000 ∧ xs.length ≤ 1000 ∧
  (k = 1 → Q (.ref l) H) ∧ (k ≠ 1 → ∀ p, H p = none → Q (.ref p) (upd H p (.tup (List.replicate k.toNat xs).flatten)))
theorem op_repN {X : Cx} : OpR X (binaryOp .Mult) (rRepN X.K) := by
  intro pins s σ H x y v u Q I rx ry h
  obtain ⟨l, k, xs, rfl, rfl, hT, hne, h1, h2, hz, q1, q2⟩ := h
  by_cases h3 : 2 ≤ k
  · exact op_repT pins s σ H (.ref l) (.int k) v u Q I rx ry ⟨l, k, xs, rfl, rfl, hT, hne, h3, h2, hz, q2 (by omega)⟩
  · cases rx
    obtain ⟨t, rfl⟩ := ry
    obtain ⟨its, r, ⟨⟨cls, dd, data, sl⟩, ho, hc, n, hd⟩, hs⟩ := I.tuple hT
    simp only at hc hd
    subst hc hd
    have hi : its.toArray.isEmpty = false := by
      cases its with
      | nil => exact absurd (List.eq_nil_of_length_eq_zero r.length) hne
      | cons a b => rfl
    by_cases h4 : k = 1
    · subst h4
      refine wpAny_binaryOp_repeat_ref (T := "tuple") (U := "int") (by decide) ⟨_, ho, rfl⟩ (fun s' => typeIs_int s' 1 t) noFill_tuple_mul F.fills_int_mul F.slot_int_rmul repeat_tuple F.slot_int_index.lookup ?_
      refine call_meets F.slot_int_rmul (typeIs_int s 1 t) F.entry_int_rmul (F.args_int_rmul_2 _ _) (int_rmul_tuple 1 t l its.toArray n dd sl) ⟨ho, rfl, ⟨_, ho, rfl⟩, ?_⟩
      exact call_meets F.slot_tuple_mul ⟨_, ho, rfl⟩ F.entry_tuple_mul (F.args_tuple_mul_2 _ _) (tup_mul_one l its.toArray n dd sl t) ⟨ho, .ref l, H, I, rfl, q1 rfl⟩
    · have h5 : k = 0 := by omega
      subst h5
      refine wpAny_binaryOp_repeat_ref (T := "tuple") (U := "int") (by decide) ⟨_, ho, rfl⟩ (fun s' => typeIs_int s' 0 t) noFill_tuple_mul F.fills_int_mul F.slot_int_rmul repeat_tuple F.slot_int_index.lookup ?_
      refine call_meets F.slot_int_rmul (typeIs_int s 0 t) F.entry_int_rmul (F.args_int_rmul_2 _ _) (int_rmul_tuple 0 t l its.toArray n dd sl) ⟨ho, rfl, ⟨_, ho, rfl⟩, ?_⟩
      refine call_meets F.slot_tuple_mul ⟨_, ho, rfl⟩ F.entry_tuple_mul (F.args_tuple_mul_2 _ _) (tup_mul_zero l its.toArray n dd sl t hi) ⟨ho, ?_⟩
      refine ⟨.ref s.heap.objs.size, _, I.laid (t' := s.toks) (o := .tup []) (fun b ob q => Heap.get?_push_of_some _ q) (Nat.le_refl _) ?_, rfl, q2 (by decide) _ (I.hok.fresh (Nat.le_refl _))⟩
      exact ⟨Nat.zero_le _, [], .nil, IsTup.new _ _⟩
end Wr
namespace Lg
open PySem PySem.Spec PyProof.Rows L2 Wr
section
variable {K : PySem.W.Frag} {ds : List (Option Da)} {rs rs1 rs2 rs3 : List Rs} {ta tb tc te : TE} {i : Int} {l : List Int}
theorem dvAll_rep {F : Hp} {d : Da} {v : V} (h : Dv K F d v) : ∀ n : Nat, DvAll K F (List.replicate n d) (List.replicate n [v]).flatten
  | 0 => rfl
  | n + 1 => ⟨v, _, rfl, h, dvAll_rep h n⟩
/-- (d,) * k -/
theorem repT {d : Da} (ha : Ev K rs ta ds (.tup [d]) rs1) (hb : Ev K rs1 tb ds (.int i) rs2) (hi : 0 ≤ i ∧ i ≤ 1000) : Ev K rs (tOp (rRepN K) ta tb) ds (.tup (List.replicate i.toNat d)) rs2 :=
  op ha hb fun x y F H hx hy o Q q => by
    obtain ⟨a, xs, rfl, h1, v, r, rfl, hv, rfl⟩ := hx
    refine ⟨a, i, [v], rfl, hy, sqt_up (ow_sub o) h1, by simp, hi.1, hi.2, by show 1 ≤ 1000; decide, fun e => ?_, fun e p hp => ?_⟩
    · subst e
      exact q _ F H (Sub.refl F) ⟨a, _, rfl, h1, v, _, rfl, hv, rfl⟩ o
    · obtain ⟨o2, x⟩ := ow_new (u := .tup (List.replicate i.toNat [v]).flatten) o hp
      exact q _ _ _ x ⟨p, _, rfl, .inl (.inl upd_same), DvAll.mono x _ _ (dvAll_rep hv _)⟩ o2
theorem repTi {n : Int} (ha : Ev K rs ta ds (.int n) rs1) (hb : Ev K rs1 tb ds (.int i) rs2) (hi : 0 ≤ i ∧ i ≤ 1000) : Ev K rs (tOp (rRepN K) (tTup (tCons ta tNil)) tb) ds (ti (List.replicate i.toNat n)) rs2 :=
  is_ (repT (tup_ (cons_ ha nil_) (sz rfl)) hb hi) (by unfold ti; rw [List.map_replicate])
end
end Lg

namespace M
def lb1 (s : Seg) : Nat → List Int
  | 0 => two s.src ++ two s.goal
  | 1 => two s.src ++ two s.goal ++ two (s.num / 65536) ++ two (s.num % 65536)
  | _ => two s.src ++ two s.goal ++ two (s.num / 65536) ++ two (s.num % 65536) ++ two (s.ans / 65536) ++ two (s.ans % 65536)
theorem lb2 (s : Seg) : lb1 s 2 ++ [([80, 96] : List Int).getD (b2i (decide (0 < s.most))).toNat 0, s.flags] ++ two s.win ++ [0, 0, 0, 0] = headA s := by
  unfold headA b2i
  by_cases h : 0 < s.most
  · rw [decide_eq_true h]; rfl
  · rw [decide_eq_false h]; rfl
theorem headA_most (s : Seg) (h : decide (0 < s.most) = true) : headA s ++ [2, 4] ++ two s.most = head s := by rw [head_yes h, List.append_assoc]
theorem b2i_range (b : Bool) : 0 ≤ b2i b ∧ b2i b < 2 := by cases b <;> exact ⟨by decide, by decide⟩
def nums (ns : List Int) (b : Int) : Nat → List Int
  | 0 => []
  | 1 => [anyNum (mix ns (b + 4 + 0))]
  | _ => [anyNum (mix ns (b + 4 + 0)), anyNum (mix ns (b + 4 + 1))]
end M
namespace Lg
open PySem PySem.Spec PyProof.Rows L2 Wr
theorem lb1_step {s : M.Seg} {i : Nat} {x : Da} (h : (cutD [.int s.src, .int s.goal, .int s.num, .int s.ans, .int s.flags, .int s.win, .int s.most, ti s.data] (some 2) (some 4))[i]? = some x) :
    ∃ n, x = .int n ∧ M.lb1 s i ++ M.two (n / 65536) ++ M.two (n % 65536) = M.lb1 s (i + 1) ∧ (M.lb1 s i).length ≤ 100 := by
  match i, h with
  | 0, h => exact ⟨s.num, (Option.some.inj h).symm, rfl, by show 4 ≤ 100; decide⟩
  | 1, h => exact ⟨s.ans, (Option.some.inj h).symm, rfl, by show 8 ≤ 100; decide⟩
  | n + 2, h => exact absurd (show (none : Option Da) = some x from h) (fun e => nomatch e)
end Lg
namespace M
theorem head_len (s : Seg) : (head s).length ≤ 24 := by
  by_cases h : 0 < s.most
  · rw [head_yes (decide_eq_true h), List.length_append, headA_len]; exact Nat.le_refl _
  · rw [head_no (decide_eq_false h), headA_len]; decide
end M
namespace M
theorem sl_len (xs : List Int) (lo hi : Option Int) : (sl xs lo hi).length ≤ xs.length := by
  unfold sl
  rw [List.length_take, List.length_drop]
  omega
theorem put_room1 (R : List Int) (x : Int) (h : R.length ≤ 2000) : (sl R none (some 16)).length + (two x).length ≤ 100000 := by
  have := sl_len R none (some 16)
  show _ + 2 ≤ _
  omega
theorem put_room2 (R : List Int) (x : Int) (h : R.length ≤ 2000) : (sl R none (some 16) ++ two x).length + (sl R (some 18) none).length ≤ 100000 := by
  have h1 := sl_len R none (some 16)
  have h2 := sl_len R (some 18) none
  rw [List.length_append]
  show _ + 2 + _ ≤ _
  omega
end M
namespace Lg
open PySem PySem.Spec PyProof.Rows L2 Wr
theorem g_olI {K : PySem.W.Frag} {F0 : Hp} {D : Ends} {ds : List (Option Da)} {rs : List Rs} {t : TS} {p : Addr} {l m : List Int} (e : l = m) (k : G K F0 t D ds (ol K p (m.map Da.int) :: rs)) : G K F0 t D ds (ol K p (l.map Da.int) :: rs) := e ▸ k
end Lg

/-! Defs that may raise an own error. -/
namespace Wr
open PySem PySem.Spec PyProof.Rows L2 Evl
section
variable {fa : List He.Fa} {fn : List He.DefD} {ex : PySem.W.Frag → Bool} {w : World} {K : PySem.W.Frag} {mg : Str → Option Value}
/-- what the top says of an own error's class -/
theorem Tx.exc (T : Tx fa fn ex w K mg) (i : Nat) {x : Str} (h : fa[i]? = some (.exc x) := by rfl) : PySem.W.excIn K (He.ga K x) He.veBase "ValueError.__new__" = true ∧ PySem.W.keepIn K (.ref (He.ga K x)) = true ∧ PySem.W.subIn K (.ref (He.ga K x)) (.type "BaseException") = some true ∧
    PySem.W.typeIn K (.ref (He.ga K x)) = some (.type "type") := He.exc_ok (T.says.fact i h)
theorem Tx.exm (T : Tx fa fn ex w K mg) (i : Nat) {x y : Str} {b : Bool} (h : fa[i]? = some (.exm x y b) := by rfl) : PySem.W.exmOne K (.ref (He.ga K x)) (.ref (He.ga K y)) = some b := He.exm_ok (T.says.fact i h)
end
/-- a def that may raise -/
structure DfX (P : Program) (w : World) (K : PySem.W.Frag) (mg : Str → Option Value) (base : Heap) (k : Nat) (x : Str) (ps : List Str) (sp : Sp) : Prop where
  ex : ∃ (f : Addr) (fd : FuncData), FnOk P w K mg base (L2.CX P w) k f fd ps sp ∧ mg x = some (.ref f) ∧ PySem.W.keepIn K (.ref f) = true ∧ Binds K fd ps []
theorem pe_dfX {X : Cx} {k : Nat} {x : Str} {ps : List Str} {sp : Sp} {e : Expr} {es : List Expr} {t : TA} {W : WX} {p pos : Pos} (D : DfX X.prog X.w X.K X.mg X.base k x ps sp) (hr : Room k X.A) (tk : Takes X W) (ha : PA X (e :: es) t)
    (hg : Gl X x := by rfl) (hdb : (x == ("__debug__" : Str)) = false := by decide) (he : starEach (e :: es) X.env = (false, eval e X.env) :: starEach es X.env := by rfl) (hpl : (backTo pos (starEach es X.env)).any (·.1) = false := by rfl) :
    PE X (.Call (.Name x p) (e :: es) [] pos) (tCallS sp (WE W) t) := by
  obtain ⟨f, fd, G, hm, kp, b⟩ := D.ex
  exact pe_callS G hr hg hm kp b (passAt tk) ha hdb he hpl
/-- raise X('m') -/
def tRaiseC (C : Addr) (W : WX) : TS := fun _ σ H => W (.ref C) none σ H
theorem ps_raiseC {X : Cx} {W : WX} {x m : Str} {j : Nat} {p p2 pos pos2 : Pos} (hc : X.calm = true) (tk : Takes X W) (q : PySem.W.excIn X.K (He.ga X.K x) He.veBase "ValueError.__new__" = true ∧ PySem.W.keepIn X.K (.ref (He.ga X.K x)) = true ∧ PySem.W.subIn X.K (.ref (He.ga X.K x)) (.type "BaseException") = some true ∧
    PySem.W.typeIn X.K (.ref (He.ga X.K x)) = some (.type "type")) (gC : X.mg x = some (.ref (He.ga X.K x))) (hg : Gl X x := by rfl) (hdb : (x == ("__debug__" : Str)) = false := by decide) :
    PS X (.Raise (some (.Call (.Name x p) [.Constant (.str m) j p2] [] pos)) none pos2) (tRaiseC (He.ga X.K x) W) :=
  ps_raise hc tk (pmk_own PySem.F.excBase_ValueError q.1 gC q.2.1 (raises_own q.2.2.1 q.2.2.2) hg hdb)
section
variable {P : Program} {w : World} {K : PySem.W.Frag} {mg : Str → Option Value} {base : Heap} {fa : List He.Fa} {fn : List He.DefD} {ex : PySem.W.Frag → Bool}
theorem dfx_mk {x : Str} {N ps : List Str} {k : Nat} {sp : Sp} {ar : Arguments} {bo : List Stmt} {sc : Scope} (T : Tx fa fn ex w K mg) (i j : Nat) (hi : fn[i]? = some ⟨(x, none), x, x, ar, bo, sc, [], []⟩) (hj : fa[j]? = some (.glo x)) (S : FnScope N ps sc)
    (hb : ∀ (kV doc pm : Value) (an : Option Addr) (cdv ct : Value) (us : List Value), us.length = ps.length → bindArgs (PySem.W.fnOf x x ar bo sc .none kV doc pm an cdv ct) ⟨us, []⟩ = pure (ps.zip us))
    (len : ∀ vs H Q E, sp vs H Q E → vs.length = ps.length)
    (hbody : ∀ (f : Addr) (cdv : Value) (A : Around) (outer : List Env) (s : Shared) (H : Hp) (vs : List V) (Q : VK) (E : XK), Room k (A.deeper (envOfC x sc s.heap.objs.size f cdv)) → sp vs H Q E →
      ∃ t, PSs (cxOf (L2.CX P w) P w K mg base N x sc f cdv A outer s H E) bo t ∧ t { nx := fun _ H' => Q .non H', rt := Q } (start N vs) H) : DfX P w K mg base (k + 1) x ps sp := by
  obtain ⟨fd, F⟩ := T.says.def_ i hi
  have h1 := T.glo j hj
  refine ⟨He.ga K x, fd, ?_, h1, F.kp, F.bindsN hb⟩
  exact F.ok S len fun cdv A outer s H vs Q E hr h => hbody _ cdv A outer s H vs Q E hr h
end
end Wr
namespace Lg
open PySem PySem.Spec PyProof.Rows L2 Wr
/-- R: what it gives; RX: where it raises the error of the class at C -/
def SpGX (K : PySem.W.Frag) (C : Addr) (R : List Da → List Rs → Da → List Rs → Prop) (RX : List Da → List Rs → Prop) : Sp := fun vs H Q E => ∃ F l rs, DvAll K F l vs ∧ Ow F rs H ∧
  ((∃ d rs', R l rs d rs' ∧ ∀ v F' H', Sub F F' → Dv K F' d v → Ow F' rs' H' → Q v H') ∨ (RX l rs ∧ ∀ F' H', Sub F F' → Ow F' rs H' → E (.ref C) none H'))
section
variable {K : PySem.W.Frag} {F0 : Hp} {D : Ends} {ds : List (Option Da)} {rs rs1 rs2 : List Rs} {ta : TA} {te : TE} {tz : TS} {d : Da} {l : List Da} {C : Addr} {ii : Nat}
/-- a call that does not raise -/
theorem callX {R : List Da → List Rs → Da → List Rs → Prop} {RX : List Da → List Rs → Prop} {W : WX} (h : EvA K rs ta ds l rs1) (hR : R l rs1 d rs2) : Ev K rs (tCallS (SpGX K C R RX) (WE W) ta) ds d rs2 := fun σ F H vs o Q q =>
  h σ F H vs o _ fun ws F1 H1 s1 dw o1 => ⟨F1, l, rs1, dw, o1, .inl ⟨d, rs2, hR, fun v F2 H2 s2 => q v F2 H2 (s1.trans s2)⟩⟩
/-- raise -/
theorem g_raise {E : XK} (k : ∀ F H, Sub F0 F → Ow F rs H → E (.ref C) none H) : G K F0 (tRaiseC C fun cls d _ H => E cls d H) D ds rs := fun σ F H s vs o => k F H s o
/-- x = f(..), which raises through the def -/
theorem g_asgX {R : List Da → List Rs → Da → List Rs → Prop} {RX : List Da → List Rs → Prop} {E : XK} (h : EvA K rs ta ds l rs1) (hR : (∃ d rs2, R l rs1 d rs2 ∧ G K F0 tz D (ds.set ii (some d)) rs2) ∨ (RX l rs1 ∧ ∀ F H, Sub F0 F → Ow F rs1 H → E (.ref C) none H)) :
    G K F0 (tSeq (tAsg (tCallS (SpGX K C R RX) (WE fun cls d _ H => E cls d H) ta) (gName ii)) tz) D ds rs := fun σ F H s vs o =>
  h σ F H vs o _ fun ws F1 H1 s1 dw o1 => by
    rcases hR with ⟨d, rs2, hR, k⟩ | ⟨hR, k⟩
    · exact ⟨F1, l, rs1, dw, o1, .inl ⟨d, rs2, hR, fun v F2 H2 s2 dv o2 => k _ F2 H2 (s.trans (s1.trans s2)) ((vs.mono (s1.trans s2)).set dv) o2⟩⟩
    · exact ⟨F1, l, rs1, dw, o1, .inr ⟨hR, fun F2 H2 s2 o2 => k F2 H2 (s.trans (s1.trans s2)) o2⟩⟩
/-- try: x = f(..) except C: .. -/
theorem g_try {R : List Da → List Rs → Da → List Rs → Prop} {RX : List Da → List Rs → Prop} {c : Value} {ts : Addr → Value → Option Addr → TS} {Wout : WX} (h : EvA K rs ta ds l rs1)
    (hR : (∃ d rs2, R l rs1 d rs2 ∧ G K F0 tz D (ds.set ii (some d)) rs2) ∨ (RX l rs1 ∧ PySem.W.exmOne K (.ref C) c = some true ∧ ∀ a, G K F0 (ts a (.ref C) none) { D with nx := tz D } ds rs1)) :
    G K F0 (tSeq (fun D σ H => tAsg (tCallS (SpGX K C R RX) (WE (wOnly K c ts Wout D)) ta) (gName ii) D σ H) tz) D ds rs := fun σ F H s vs o =>
  h σ F H vs o _ fun ws F1 H1 s1 dw o1 => by
    rcases hR with ⟨d, rs2, hR, k⟩ | ⟨hR, hx, k⟩
    · exact ⟨F1, l, rs1, dw, o1, .inl ⟨d, rs2, hR, fun v F2 H2 s2 dv o2 => k _ F2 H2 (s.trans (s1.trans s2)) ((vs.mono (s1.trans s2)).set dv) o2⟩⟩
    · exact ⟨F1, l, rs1, dw, o1, .inr ⟨hR, fun F2 H2 s2 o2 => ⟨true, hx, fun _ a _ => k a _ F2 H2 (s.trans (s1.trans s2)) (vs.mono (s1.trans s2)) o2, fun z => by cases z⟩⟩⟩
end
section
variable {P : Program} {w : World} {K : PySem.W.Frag} {mg : Str → Option Value} {base : Heap} {fa : List He.Fa} {fn : List He.DefD} {ex : PySem.W.Frag → Bool}
theorem df_mkGX {x : Str} {N ps : List Str} {k : Nat} {C : Addr} {R : List Da → List Rs → Da → List Rs → Prop} {RX : List Da → List Rs → Prop} {ar : Arguments} {bo : List Stmt} {sc : Scope} (T : Tx fa fn ex w K mg) (i j : Nat) (hi : fn[i]? = some ⟨(x, none), x, x, ar, bo, sc, [], []⟩) (hj : fa[j]? = some (.glo x)) (S : FnScope N ps sc)
    (hb : ∀ (kV doc pm : Value) (an : Option Addr) (cdv ct : Value) (us : List Value), us.length = ps.length → bindArgs (PySem.W.fnOf x x ar bo sc .none kV doc pm an cdv ct) ⟨us, []⟩ = pure (ps.zip us))
    (len : ∀ l rs d rs', R l rs d rs' → l.length = ps.length) (lenX : ∀ l rs, RX l rs → l.length = ps.length)
    (hbody : ∀ (f : Addr) (cdv : Value) (A : Around) (outer : List Env) (s : Shared) (H : Hp) (E : XK), Room k (A.deeper (envOfC x sc s.heap.objs.size f cdv)) →
      ∃ t, PSs (cxOf (L2.CX P w) P w K mg base N x sc f cdv A outer s H E) bo t ∧ ∀ (F : Hp) (l : List Da) (rs : List Rs) (Q : VK), ((∃ d rs', R l rs d rs' ∧ ∀ v F' H', Sub F F' → Dv K F' d v → Ow F' rs' H' → Q v H') ∨ (RX l rs ∧ ∀ F' H', Sub F F' → Ow F' rs H' → E (.ref C) none H')) →
        G K F t { nx := fun _ H' => Q .non H', rt := Q } (locs l N.length) rs) : DfX P w K mg base (k + 1) x ps (SpGX K C R RX) := by
  refine dfx_mk T i j hi hj S hb (fun vs H Q E h => ?_) (fun f cdv A outer s H vs Q E hr h => ?_)
  · obtain ⟨F, l, rs, dw, _, ⟨d, rs', hR, _⟩ | ⟨hR, _⟩⟩ := h
    · rw [dvAll_len dw]; exact len _ _ _ _ hR
    · rw [dvAll_len dw]; exact lenX _ _ hR
  · obtain ⟨F, l, rs, dw, o, kk⟩ := h
    obtain ⟨t, h1, h2⟩ := hbody f cdv A outer s H E hr
    exact ⟨t, h1, h2 F l rs Q kk _ F H (Sub.refl F) (vs_start dw) o⟩
end
end Lg

namespace M
theorem orf {a b : Bool} (h : (a || b) = false) : a = false ∧ b = false := Bool.or_eq_false_iff.mp h
theorem ntf {a : Bool} (h : (!a) = false) : a = true := by cases a <;> first | rfl | cases h
theorem fne {b : Bool} (h : b = false) : ¬ b = true := fun z => Bool.false_ne_true (h.symm.trans z)
section
variable {row : List Int}
abbrev q1 (row : List Int) : Bool := decide ((row.length : Int) < 20) || (!(decide (at_ row 12 = 80) || decide (at_ row 12 = 96)) || decide (31 < at_ row 13))
abbrev q2 (row : List Int) : Bool := decide ((row.length : Int) < at_ row 12 / 4) || (decide (16 < (row.length : Int) - at_ row 12 / 4) || (!decide (at_ row 18 = 0) || !decide (at_ row 19 = 0)))
abbrev q3 (row : List Int) : Bool := decide (at_ row 12 / 4 = 24)
abbrev q4 (row : List Int) : Bool := decide (at_ row 13 / 2 % 2 = 0) || (!decide (at_ row 20 = 2) || (!decide (at_ row 21 = 4) || decide (number_of (sl row (some 22) (some 24)) < 4)))
theorem isR1 (h : q1 row = true) : isRight row = false := if_pos h
theorem isR2 (h : q1 row = false) (h2 : q2 row = true) : isRight row = false := (if_neg (fne h)).trans (if_pos h2)
theorem isR3 (h : q1 row = false) (h2 : q2 row = false) (h3 : q3 row = true) (h4 : q4 row = true) : isRight row = false := (if_neg (fne h)).trans ((if_neg (fne h2)).trans ((if_pos h3).trans (if_pos h4)))
theorem isR4 (h : q1 row = false) (h2 : q2 row = false) (h3 : q3 row = true) (h4 : q4 row = false) : isRight row = decide (folded row = 65535) := (if_neg (fne h)).trans ((if_neg (fne h2)).trans ((if_pos h3).trans (if_neg (fne h4))))
theorem isR5 (h : q1 row = false) (h2 : q2 row = false) (h3 : q3 row = false) : isRight row = decide (folded row = 65535) := (if_neg (fne h)).trans ((if_neg (fne h2)).trans (if_neg (fne h3)))
theorem isQ1 (h : q1 row = false) : 20 ≤ row.length ∧ (at_ row 12 = 80 ∨ at_ row 12 = 96) ∧ at_ row 13 ≤ 31 := by
  obtain ⟨h1, h2⟩ := orf h
  obtain ⟨h3, h4⟩ := orf h2
  have h5 := of_decide_eq_false h1
  refine ⟨by omega, ?_, by have := of_decide_eq_false h4; omega⟩
  rcases Bool.or_eq_true_iff.mp (ntf h3) with z | z
  · exact .inl (of_decide_eq_true z)
  · exact .inr (of_decide_eq_true z)
theorem isQ2 (h : q2 row = false) : at_ row 12 / 4 ≤ (row.length : Int) ∧ (row.length : Int) - at_ row 12 / 4 ≤ 16 ∧ at_ row 18 = 0 ∧ at_ row 19 = 0 := by
  obtain ⟨h1, h2⟩ := orf h
  obtain ⟨h3, h4⟩ := orf h2
  obtain ⟨h5, h6⟩ := orf h4
  have z1 := of_decide_eq_false h1
  have z2 := of_decide_eq_false h3
  exact ⟨by omega, by omega, of_decide_eq_true (ntf h5), of_decide_eq_true (ntf h6)⟩
theorem isQ3 (h : at_ row 12 / 4 = 24) (h2 : at_ row 12 / 4 ≤ (row.length : Int)) : 24 ≤ row.length := by omega
theorem isRight_q1 (h : isRight row = true) : q1 row = false := by
  cases z : q1 row with
  | false => rfl
  | true => rw [isR1 z] at h; cases h
theorem isRight_q2 (h : isRight row = true) : q2 row = false := by
  cases z : q2 row with
  | false => rfl
  | true => rw [isR2 (isRight_q1 h) z] at h; cases h
theorem right_len (h : isRight row = true) : 20 ≤ row.length := (isQ1 (isRight_q1 h)).1
end
end M
namespace Lg
open PySem PySem.Spec PyProof.Rows L2 Wr
def f_get (l : List Da) (d : Da) : Prop := ∃ row, l = [li row] ∧ row.length ≤ 10000 ∧ M.isRight row = true ∧ d = sg (M.getS row)
def x_get (l : List Da) (_ : List Rs) : Prop := ∃ row, l = [li row] ∧ row.length ≤ 10000 ∧ M.isRight row = false
end Lg

namespace M
theorem all_true {α : Type} (l : List α) : (l.map fun _ => true).all id = true := by rw [List.all_map]; exact List.all_eq_true.mpr fun _ _ => rfl
section
variable {ns : List Int} {b : Int}
theorem anyMost1 (h : (decide (anyFlags ns b / 2 % 2 = 1) && decide (0 < mix ns (b + 1) % 3)) = true) (h2 : decide (([4, 5, 16, 536, 65535, 0] : List Int).getD (mix ns (b + 3) % 6).toNat 0 = 0) = true) : anyMost ns b = 4 + mix ns (b + 2) % 65532 :=
  (if_pos h).trans (if_pos h2)
theorem anyMost2 (h : (decide (anyFlags ns b / 2 % 2 = 1) && decide (0 < mix ns (b + 1) % 3)) = true) (h2 : decide (([4, 5, 16, 536, 65535, 0] : List Int).getD (mix ns (b + 3) % 6).toNat 0 = 0) = false) : anyMost ns b = ([4, 5, 16, 536, 65535, 0] : List Int).getD (mix ns (b + 3) % 6).toNat 0 :=
  (if_pos h).trans (if_neg (fne h2))
theorem anyMost3 (h : (decide (anyFlags ns b / 2 % 2 = 1) && decide (0 < mix ns (b + 1) % 3)) = false) : anyMost ns b = 0 := if_neg (fne h)
theorem nums_step {i : Nat} (h : (i : Int) < 2) : nums ns b (i + 1) = nums ns b i ++ [anyNum (mix ns (b + 4 + (i : Int)))] := by
  match i, h with
  | 0, _ => rfl
  | 1, _ => rfl
  | n + 2, h => omega
theorem nums_len {i : Nat} (h : (i : Int) < 2) : (nums ns b i).length < 100000 := by
  match i, h with
  | 0, _ => exact (by decide : 0 < 100000)
  | 1, _ => exact (by decide : 1 < 100000)
  | n + 2, h => omega
theorem num0 : (nums ns b 2).getD 0 0 = (any ns b).num := by
  show anyNum (mix ns (b + 4 + 0)) = anyNum (mix ns (b + 4))
  rw [Int.add_zero]
theorem num1 : (nums ns b 2).getD 1 0 = (any ns b).ans := by
  show anyNum (mix ns (b + 4 + 1)) = anyNum (mix ns (b + 5))
  rw [Int.add_assoc]; rfl
theorem anySize_range (ns : List Int) (b : Int) : 0 ≤ anySize ns b ∧ anySize ns b ≤ 16 := by
  unfold anySize
  have h1 : 0 ≤ mix ns (b + 9) % 5 ∧ mix ns (b + 9) % 5 < 5 := by omega
  generalize mix ns (b + 9) % 5 = z at h1
  have h2 : z = 0 ∨ z = 1 ∨ z = 2 ∨ z = 3 ∨ z = 4 := by omega
  rcases h2 with rfl | rfl | rfl | rfl | rfl
  · show (0 : Int) ≤ 0 ∧ (0 : Int) ≤ 16; decide
  · show (0 : Int) ≤ 1 ∧ (1 : Int) ≤ 16; decide
  · show (0 : Int) ≤ 15 ∧ (15 : Int) ≤ 16; decide
  · show (0 : Int) ≤ 16 ∧ (16 : Int) ≤ 16; decide
  · show 0 ≤ mix ns (b + 8) % 17 ∧ mix ns (b + 8) % 17 ≤ 16
    omega
theorem any_data_len (ns : List Int) (b : Int) : (any ns b).data.length ≤ 16 := by
  have h := anySize_range ns b
  show (anyData ns b).length ≤ 16
  unfold anyData
  split
  · rw [List.length_replicate]; omega
  · rw [List.length_map, List.length_range]; omega
end
end M
namespace Lg
open PySem PySem.Spec PyProof.Rows L2 Wr
theorem sg_of {s : M.Seg} {a1 a2 a3 a4 a5 a6 a7 : Int} {d : List Int} (h1 : a1 = s.src) (h2 : a2 = s.goal) (h3 : a3 = s.num) (h4 : a4 = s.ans) (h5 : a5 = s.flags) (h6 : a6 = s.win) (h7 : a7 = s.most) (h8 : d = s.data) :
    Da.tup [.int a1, .int a2, .int a3, .int a4, .int a5, .int a6, .int a7, ti d] = sg s := by subst h1 h2 h3 h4 h5 h6 h7 h8; rfl
section
variable {K : PySem.W.Frag} {F0 F H : Hp} {D : Ends} {ds : List (Option Da)} {rs rs1 rs2 rs3 : List Rs} {ta tb tc te : TE} {tz t : TS} {d : Da} {l m : List Da} {p : Addr} {ii : Nat} {r : Rs}
theorem g_app1 (hi : ds[ii]? = some (some (.ref p))) (h : Ev K (ol K p l :: rs) te ds d (ol K p l :: rs1)) (hz : l.length < 100000) (k : G K F0 tNext D ds (ol K p (l ++ [d]) :: rs1)) :
    G K F0 (tDrop (tBM K "list" rAppend (tVar ii) (tCons te tNil))) D ds (ol K p l :: rs) := g_app (tz := tNext) hi h hz k
end
end Lg

namespace M
/-- a right segment -/
structure Ok (s : Seg) : Prop where
  src : 0 ≤ s.src ∧ s.src ≤ 65535
  goal : 0 ≤ s.goal ∧ s.goal ≤ 65535
  num : 0 ≤ s.num ∧ s.num ≤ 4294967295
  ans : 0 ≤ s.ans ∧ s.ans ≤ 4294967295
  flags : 0 ≤ s.flags ∧ s.flags ≤ 31
  win : 0 ≤ s.win ∧ s.win ≤ 65535
  most : s.most = 0 ∨ (4 ≤ s.most ∧ s.most ≤ 65535 ∧ s.flags / 2 % 2 = 1)
  len : s.data.length ≤ 16
  data : ∀ x ∈ s.data, 0 ≤ x ∧ x ≤ 255
abbrev By (l : List Int) : Prop := ∀ x ∈ l, 0 ≤ x ∧ x ≤ 255
theorem By.app {l m : List Int} (h : By l) (k : By m) : By (l ++ m) := fun x hx => by
  rcases List.mem_append.mp hx with z | z
  · exact h x z
  · exact k x z
theorem By.left {l m : List Int} (h : By (l ++ m)) : By l := fun x hx => h x (List.mem_append_left _ hx)
theorem By.right {l m : List Int} (h : By (l ++ m)) : By m := fun x hx => h x (List.mem_append_right _ hx)
def pre (s : Seg) (b c : Int) : List Int :=
  [s.src / 256, s.src % 256, s.goal / 256, s.goal % 256, s.num / 65536 / 256, s.num / 65536 % 256, s.num % 65536 / 256, s.num % 65536 % 256, s.ans / 65536 / 256, s.ans / 65536 % 256, s.ans % 65536 / 256, s.ans % 65536 % 256,
   (5 + b) * 16, s.flags, s.win / 256, s.win % 256, c / 256, c % 256, 0, 0]
def post (s : Seg) : List Int := if 0 < s.most then 2 :: 4 :: s.most / 256 :: s.most % 256 :: s.data else s.data
def bit (s : Seg) : Int := if 0 < s.most then 1 else 0
theorem head_pre (s : Seg) : head s ++ s.data = pre s (bit s) 0 ++ post s := by
  unfold post bit
  by_cases h : 0 < s.most
  · rw [head_yes (decide_eq_true h), if_pos h, if_pos h]
    unfold headA b2i
    rw [if_pos (decide_eq_true h)]
    rfl
  · rw [head_no (decide_eq_false h), if_neg h, if_neg h]
    unfold headA b2i
    rw [if_neg (fun z => h (of_decide_eq_true z))]
    rfl
theorem put_pre (s : Seg) : put s = pre s (bit s) (sum_of (head s ++ s.data)) ++ post s := by
  unfold put
  rw [head_pre s]
  rfl
theorem pre_by {s : Seg} (h : Ok s) {c : Int} (hc : 0 ≤ c ∧ c ≤ 65535) : By (pre s (bit s) c) := by
  obtain ⟨h1, h2, h3, h4, h5, h6, h7, h8, h9⟩ := h
  have hb : bit s = 0 ∨ bit s = 1 := by unfold bit; split <;> simp
  unfold By pre
  simp only [List.forall_mem_cons]
  refine ⟨by omega, by omega, by omega, by omega, by omega, by omega, by omega, by omega, by omega, by omega, by omega, by omega, by omega, by omega, by omega, by omega, by omega, by omega, by omega, by omega, ?_⟩
  intro x hx; cases hx
theorem post_by {s : Seg} (h : Ok s) : By (post s) := by
  unfold post
  split
  · have := h.most
    unfold By
    simp only [List.forall_mem_cons]
    exact ⟨by omega, by omega, by omega, by omega, h.data⟩
  · exact h.data
theorem sum_range {l : List Int} (h : By l) : 0 ≤ sum_of l ∧ sum_of l ≤ 65535 := by
  obtain ⟨h1, h2, _, _⟩ := fold_range (wsum_nn h)
  unfold sum_of folded
  omega
theorem folded_sum {A C : List Int} (hA : A.length % 2 = 0) (hR : By (A ++ ([0, 0] ++ C))) : folded (A ++ (two (sum_of (A ++ ([0, 0] ++ C))) ++ C)) = 65535 := by
  have hw := wsum_nn hR
  unfold folded
  have e1 : ∀ a b : Int, wsum (A ++ ([a, b] ++ C)) = wsum A + (256 * a + b + wsum C) := fun a b => by rw [wsum_app _ [] hA]; rfl
  unfold two
  rw [e1]
  have e2 := e1 0 0
  have hd : 256 * (sum_of (A ++ ([0, 0] ++ C)) / 256) + sum_of (A ++ ([0, 0] ++ C)) % 256 = sum_of (A ++ ([0, 0] ++ C)) := by omega
  rw [hd]
  have e3 : wsum A + (sum_of (A ++ ([0, 0] ++ C)) + wsum C) = wsum (A ++ ([0, 0] ++ C)) + (65535 - fold (wsum (A ++ ([0, 0] ++ C)))) := by
    have : sum_of (A ++ ([0, 0] ++ C)) = 65535 - fold (wsum (A ++ ([0, 0] ++ C))) := rfl
    omega
  rw [e3]
  exact fold_whole hw
theorem row_by {s : Seg} (h : Ok s) : By (head s ++ s.data) := by
  rw [head_pre]
  exact (pre_by h ⟨by omega, by omega⟩).app (post_by h)
theorem put_by {s : Seg} (h : Ok s) : By (put s) := by
  rw [put_pre]
  exact (pre_by h (sum_range (row_by h))).app (post_by h)
theorem put_folded {s : Seg} (h : Ok s) : folded (put s) = 65535 := by
  have hb := row_by h
  have z := folded_sum (A := (pre s (bit s) 0).take 16) (C := [0, 0] ++ post s) (congrArg (· % 2) (show ((pre s (bit s) 0).take 16).length = 16 from rfl)) (by
    have e : (pre s (bit s) 0).take 16 ++ ([0, 0] ++ ([0, 0] ++ post s)) = head s ++ s.data := by rw [head_pre]; rfl
    rw [e]; exact hb)
  have e : (pre s (bit s) 0).take 16 ++ ([0, 0] ++ ([0, 0] ++ post s)) = head s ++ s.data := by rw [head_pre]; rfl
  rw [e] at z
  rw [put_pre]
  exact z
theorem post_len {s : Seg} : (post s).length = (if 0 < s.most then 4 else 0) + s.data.length := by
  unfold post
  split
  · simp only [List.length_cons]; omega
  · omega
theorem put_len (s : Seg) : (put s).length = 20 + ((if 0 < s.most then 4 else 0) + s.data.length) := by
  rw [put_pre, List.length_append, post_len]
  rfl
theorem put_at {s : Seg} {i : Nat} (h : i < 20) : at_ (put s) i = at_ (pre s (bit s) (sum_of (head s ++ s.data))) i := by
  rw [put_pre]
  unfold at_
  rw [List.getD_eq_getElem?_getD, List.getD_eq_getElem?_getD, List.getElem?_append_left]
  exact h
theorem put_drop (s : Seg) : (put s).drop 20 = post s := by rw [put_pre]; rfl
theorem put_right {s : Seg} (h : Ok s) : isRight (put s) = true := by
  have hl := put_len s
  have h12 : at_ (put s) 12 = (5 + bit s) * 16 := put_at (by decide)
  have h13 : at_ (put s) 13 = s.flags := put_at (by decide)
  have h18 : at_ (put s) 18 = 0 := put_at (by decide)
  have h19 : at_ (put s) 19 = 0 := put_at (by decide)
  have hf := put_folded h
  have hd := h.len
  have hfl := h.flags
  by_cases hm : 0 < s.most
  · have hb : bit s = 1 := if_pos hm
    rw [hb] at h12
    rw [if_pos hm] at hl
    have hm2 : 4 ≤ s.most ∧ s.most ≤ 65535 ∧ s.flags / 2 % 2 = 1 := by
      rcases h.most with z | z
      · omega
      · exact z
    have hp : put s = pre s 1 (sum_of (head s ++ s.data)) ++ (2 :: 4 :: s.most / 256 :: s.most % 256 :: s.data) := by
      rw [put_pre, hb]
      unfold post
      rw [if_pos hm]
    have h20 : at_ (put s) 20 = 2 := by rw [hp]; rfl
    have h21 : at_ (put s) 21 = 4 := by rw [hp]; rfl
    have h22 : number_of (sl (put s) (some 22) (some 24)) = s.most := by
      rw [show sl (put s) (some 22) (some 24) = ((put s).drop 22).take 2 from sl_mid _ 22 24, hp]
      show (0 * 256 + s.most / 256) * 256 + s.most % 256 = s.most
      omega
    rw [isR4 (by simp only [q1, hl, h12, h13]; simp; omega) (by simp only [q2, hl, h12, h18, h19]; simp; omega) (by simp only [q3, h12]; decide) (by simp only [q4, h13, h20, h21, h22]; simp; omega), hf]
    rfl
  · have hb : bit s = 0 := if_neg hm
    rw [hb] at h12
    rw [if_neg hm] at hl
    rw [isR5 (by simp only [q1, hl, h12, h13]; simp; omega) (by simp only [q2, hl, h12, h18, h19]; simp; omega) (by simp only [q3, h12]; decide), hf]
    rfl
theorem seg_ext {s t : Seg} (h1 : s.src = t.src) (h2 : s.goal = t.goal) (h3 : s.num = t.num) (h4 : s.ans = t.ans) (h5 : s.flags = t.flags) (h6 : s.win = t.win) (h7 : s.most = t.most) (h8 : s.data = t.data) : s = t := by
  obtain ⟨a1, a2, a3, a4, a5, a6, a7, a8⟩ := s
  obtain ⟨b1, b2, b3, b4, b5, b6, b7, b8⟩ := t
  simp only at h1 h2 h3 h4 h5 h6 h7 h8
  subst h1 h2 h3 h4 h5 h6 h7 h8
  rfl
theorem getS_put {s : Seg} (h : Ok s) : getS (put s) = s := by
  have h12 : at_ (put s) 12 = (5 + bit s) * 16 := put_at (by decide)
  have hp := put_pre s
  refine seg_ext ?_ ?_ ?_ ?_ ?_ ?_ ?_ ?_
  · show number_of (sl (put s) (some 0) (some 2)) = _
    rw [show sl (put s) (some 0) (some 2) = ((put s).drop 0).take 2 from sl_mid _ 0 2, hp]
    show (0 * 256 + s.src / 256) * 256 + s.src % 256 = s.src
    omega
  · show number_of (sl (put s) (some 2) (some 4)) = _
    rw [show sl (put s) (some 2) (some 4) = ((put s).drop 2).take 2 from sl_mid _ 2 4, hp]
    show (0 * 256 + s.goal / 256) * 256 + s.goal % 256 = s.goal
    omega
  · show number_of (sl (put s) (some 4) (some 8)) = _
    rw [show sl (put s) (some 4) (some 8) = ((put s).drop 4).take 4 from sl_mid _ 4 8, hp]
    show (((0 * 256 + s.num / 65536 / 256) * 256 + s.num / 65536 % 256) * 256 + s.num % 65536 / 256) * 256 + s.num % 65536 % 256 = s.num
    omega
  · show number_of (sl (put s) (some 8) (some 12)) = _
    rw [show sl (put s) (some 8) (some 12) = ((put s).drop 8).take 4 from sl_mid _ 8 12, hp]
    show (((0 * 256 + s.ans / 65536 / 256) * 256 + s.ans / 65536 % 256) * 256 + s.ans % 65536 / 256) * 256 + s.ans % 65536 % 256 = s.ans
    omega
  · exact put_at (i := 13) (by decide)
  · show number_of (sl (put s) (some 14) (some 16)) = _
    rw [show sl (put s) (some 14) (some 16) = ((put s).drop 14).take 2 from sl_mid _ 14 16, hp]
    show (0 * 256 + s.win / 256) * 256 + s.win % 256 = s.win
    omega
  · show (if decide (at_ (put s) 12 / 4 = 24) = true then number_of (sl (put s) (some 22) (some 24)) else 0) = s.most
    rw [h12]
    by_cases hm : 0 < s.most
    · have hb : bit s = 1 := if_pos hm
      rw [hb, if_pos (by decide), show sl (put s) (some 22) (some 24) = ((put s).drop 22).take 2 from sl_mid _ 22 24, hp]
      unfold post
      rw [if_pos hm]
      show (0 * 256 + s.most / 256) * 256 + s.most % 256 = s.most
      omega
    · have hb : bit s = 0 := if_neg hm
      rw [hb, if_neg (by decide)]
      rcases h.most with z | z
      · exact z.symm
      · omega
  · show sl (put s) (some (at_ (put s) 12 / 4)) none = s.data
    rw [h12]
    by_cases hm : 0 < s.most
    · have hb : bit s = 1 := if_pos hm
      rw [hb, show ((5 + 1 : Int) * 16 / 4) = ((24 : Nat) : Int) from rfl, sl_from, hp]
      unfold post
      rw [if_pos hm]
      rfl
    · have hb : bit s = 0 := if_neg hm
      rw [hb, show ((5 + 0 : Int) * 16 / 4) = ((20 : Nat) : Int) from rfl, sl_from, hp]
      unfold post
      rw [if_neg hm]
      rfl
theorem anyNum_range {n : Int} (h : 0 ≤ n) (h2 : n < 4294967231) : 0 ≤ anyNum n ∧ anyNum n ≤ 4294967295 := by
  unfold anyNum
  split
  · have h1 : 0 ≤ n / 3 % 7 ∧ n / 3 % 7 < 7 := by omega
    generalize n / 3 % 7 = z at h1
    have h3 : z = 0 ∨ z = 1 ∨ z = 2 ∨ z = 3 ∨ z = 4 ∨ z = 5 ∨ z = 6 := by omega
    rcases h3 with rfl | rfl | rfl | rfl | rfl | rfl | rfl <;> decide
  · omega
theorem anyMost_ok (ns : List Int) (b : Int) : anyMost ns b = 0 ∨ (4 ≤ anyMost ns b ∧ anyMost ns b ≤ 65535 ∧ anyFlags ns b / 2 % 2 = 1) := by
  by_cases h : (decide (anyFlags ns b / 2 % 2 = 1) && decide (0 < mix ns (b + 1) % 3)) = true
  · have hf : anyFlags ns b / 2 % 2 = 1 := of_decide_eq_true (Bool.and_eq_true_iff.mp h).1
    refine .inr ?_
    cases h2 : decide (([4, 5, 16, 536, 65535, 0] : List Int).getD (mix ns (b + 3) % 6).toNat 0 = 0) with
    | true => rw [anyMost1 h h2]; omega
    | false =>
      rw [anyMost2 h h2]
      have h3 : 0 ≤ mix ns (b + 3) % 6 ∧ mix ns (b + 3) % 6 < 6 := by omega
      generalize mix ns (b + 3) % 6 = z at h2 h3
      have h4 : z = 0 ∨ z = 1 ∨ z = 2 ∨ z = 3 ∨ z = 4 ∨ z = 5 := by omega
      rcases h4 with rfl | rfl | rfl | rfl | rfl | rfl
      · exact ⟨by decide, by decide, hf⟩
      · exact ⟨by decide, by decide, hf⟩
      · exact ⟨by decide, by decide, hf⟩
      · exact ⟨by decide, by decide, hf⟩
      · exact ⟨by decide, by decide, hf⟩
      · exact absurd h2 (by decide)
  · exact .inl (if_neg h)
theorem any_ok (ns : List Int) (b : Int) : Ok (any ns b) where
  src := by show 0 ≤ mix ns (b + 6) % 65536 ∧ mix ns (b + 6) % 65536 ≤ 65535; omega
  goal := by show 0 ≤ mix ns (b + 7) % 65536 ∧ mix ns (b + 7) % 65536 ≤ 65535; omega
  num := anyNum_range (mix_lo _ _) (mix_hi _ _)
  ans := anyNum_range (mix_lo _ _) (mix_hi _ _)
  flags := by show 0 ≤ mix ns b % 32 ∧ mix ns b % 32 ≤ 31; omega
  win := by show 0 ≤ mix ns (b + 28) % 65536 ∧ mix ns (b + 28) % 65536 ≤ 65535; omega
  most := anyMost_ok ns b
  len := any_data_len ns b
  data := by
    show By (anyData ns b)
    unfold anyData
    split
    · intro x hx
      rw [(List.mem_replicate.mp hx).2]
      exact ⟨by decide, by decide⟩
    · intro x hx
      obtain ⟨i, _, rfl⟩ := List.mem_map.mp hx
      show 0 ≤ mix ns (b + 10 + (i : Int)) / 7 % 256 ∧ mix ns (b + 10 + (i : Int)) / 7 % 256 ≤ 255
      omega
end M
namespace Lg
open PySem PySem.Spec PyProof.Rows L2 Wr
/-- a law's body: in the logic -/
theorem law_in {K : PySem.W.Frag} {t : TS} {N : List Str} {a : Addr} {ns : List Int} {H : Hp} {Q : VK} (hS : SqL K H a (ns.map V.int)) (k : ∀ H', Q (.bl true) H')
    (h : (∀ v H', v = V.bl true → Q v H') → G K H t { nx := fun _ H' => Q .non H', rt := Q } (locs [.scr ns] N.length) []) : t { nx := fun _ H' => Q .non H', rt := Q } (L2.start N [.ref a]) H := by
  refine h (fun v H' e => by rw [e]; exact k H') _ H H (Sub.refl H) ?_ (own_one (Sub.refl H))
  exact vs_start (K := K) (F := H) (l := [.scr ns]) (ws := [.ref a]) ⟨_, _, rfl, ⟨a, rfl, hS⟩, rfl⟩
end Lg
namespace M
theorem length_due (s : Seg) (h : 0 ≤ s.flags) : length s = (s.data.length : Int) + s.flags / 2 % 2 + s.flags % 2 := by
  unfold length has b2i
  have e : s.flags / 1 = s.flags := Int.ediv_one _
  rw [e]
  have h1 : s.flags / 2 % 2 = 0 ∨ s.flags / 2 % 2 = 1 := by omega
  have h2 : s.flags % 2 = 0 ∨ s.flags % 2 = 1 := by omega
  rcases h1 with h1 | h1 <;> rcases h2 with h2 | h2 <;> rw [h1, h2] <;> simp
end M

namespace Lg
open PySem PySem.Spec PyProof.Rows L2 Wr
section
variable {K : PySem.W.Frag} {F0 F H : Hp} {D : Ends} {ds : List (Option Da)} {rs rs1 rs2 rs3 : List Rs} {ta tb tc te : TE} {tz t tw : TS} {d : Da} {l m : List Da} {p : Addr} {ii : Nat} {r : Rs} {row : List Int} {i : Int}
/-! ### lists owned, in part -/
theorem slN {tl th : TO} {lo hi : Option Int} (h : Ev K rs te ds (.list l) rs1) (h1 : EvO K rs1 tl ds lo rs2) (h2 : EvO K rs2 th ds hi rs3) : EvN K rs (tSl (rSlL K) te tl th) ds (cutD l lo hi) rs3 := fun σ F H vs o Q q =>
  h σ F H vs o _ fun v F1 H1 s1 dx o1 => h1 σ F1 H1 (vs.mono s1) o1 _ fun F2 H2 s2 o2 => h2 σ F2 H2 (vs.mono (s1.trans s2)) o2 _ fun F3 H3 s3 o3 => by
    obtain ⟨a, xs, rfl, h1, h2⟩ := Dv.mono (s2.trans s3) _ _ dx
    exact ⟨a, xs, rfl, .inl (.inl (ow_sub o3 _ _ h1)), fun p hp => q p F3 _ ((s1.trans s2).trans s3) (ol_mk (own_new o3 hp) (cutD_ok h2))⟩
theorem slNi {l : List Int} {tl th : TO} {lo hi : Option Int} (h : Ev K rs te ds (li l) rs1) (h1 : EvO K rs1 tl ds lo rs2) (h2 : EvO K rs2 th ds hi rs3) : EvN K rs (tSl (rSlL K) te tl th) ds ((M.sl l lo hi).map Da.int) rs3 := isN (slN h h1 h2) cutD_int
theorem var_ref {σ : L2.St} (vs : Vs K F σ ds) (hi : ds[ii]? = some (some (.ref p))) : σ[ii]? = some (some (.ref p)) := by
  obtain ⟨v, h1, h2⟩ := vs.2 _ _ hi
  rw [show v = V.ref p from h2] at h1
  exact h1
theorem ixO {n : Nat} (hi : ds[ii]? = some (some (.ref p))) (hb : Ev K (ol K p l :: rs) tb ds (.int (n : Int)) (ol K p l :: rs)) (hx : l[n]? = some d) : Ev K (ol K p l :: rs) (tOp (rIxL K) (tVar ii) tb) ds d (ol K p l :: rs) := fun σ F H vs o Q q => by
  refine ⟨_, var_ref vs hi, ?_⟩
  refine hb σ F H vs o _ fun y F1 H1 s1 dy o1 => ?_
  obtain ⟨xs, hxs, o2⟩ := ol_out o1
  obtain ⟨v, h1, h2⟩ := dvAll_get hxs hx
  have hz : n < xs.length := (List.getElem?_eq_some_iff.mp h1).1
  refine ⟨p, xs, (n : Int), v, rfl, dy, .inl (.inl (pt_ok.mp (own_head o2))), ?_, q v F1 H1 s1 h2 o1⟩
  unfold atI ixN
  rw [if_pos (by omega), if_pos (by omega)]
  show xs[((n : Int)).toNat]? = some v
  rw [Int.toNat_natCast]
  exact h1
theorem ixOi (hi : ds[ii]? = some (some (.ref p))) (hb : Ev K (ol K p (row.map Da.int) :: rs) tb ds (.int i) (ol K p (row.map Da.int) :: rs)) (hx : 0 ≤ i ∧ i < row.length) : Ev K (ol K p (row.map Da.int) :: rs) (tOp (rIxL K) (tVar ii) tb) ds (.int (row.getD i.toNat 0)) (ol K p (row.map Da.int) :: rs) := by
  obtain ⟨n, rfl⟩ : ∃ n : Nat, i = (n : Int) := ⟨i.toNat, by omega⟩
  refine ixO hi hb ?_
  have h2 : n < row.length := by omega
  rw [List.getElem?_map, List.getElem?_eq_getElem h2, Int.toNat_natCast, List.getD_eq_getElem?_getD, List.getElem?_eq_getElem h2]
  rfl
theorem lenO (hi : ds[ii]? = some (some (.ref p))) : Ev K (ol K p l :: rs) (tCB (rLn K) (tCons (tVar ii) tNil)) ds (.int (l.length : Int)) (ol K p l :: rs) := fun σ F H vs o Q q => by
  refine ⟨_, var_ref vs hi, ?_⟩
  obtain ⟨xs, hxs, o2⟩ := ol_out o
  refine ⟨p, xs, rfl, .inl (.inl (.inl (pt_ok.mp (own_head o2)))), ?_⟩
  rw [dvAll_len hxs]
  exact q _ F H (Sub.refl F) rfl o
theorem lenOi (hi : ds[ii]? = some (some (.ref p))) : Ev K (ol K p (row.map Da.int) :: rs) (tCB (rLn K) (tCons (tVar ii) tNil)) ds (.int (row.length : Int)) (ol K p (row.map Da.int) :: rs) := is_ (lenO hi) (by rw [List.length_map])
theorem dvAll_set {F : Hp} : ∀ {l : List Da} {xs : List V} (n : Nat) {d : Da} {v : V}, DvAll K F l xs → Dv K F d v → DvAll K F (l.set n d) (xs.set n v)
  | [], _, n, d, v, h, _ => by rw [show _ = [] from h]; exact rfl
  | e :: l, _, 0, d, v, ⟨w, ws, ex, h1, h2⟩, hv => by rw [ex]; exact ⟨v, ws, rfl, hv, h2⟩
  | e :: l, _, n + 1, d, v, ⟨w, ws, ex, h1, h2⟩, hv => by rw [ex]; exact ⟨w, ws.set n v, rfl, h1, dvAll_set n h2 hv⟩
/-- x[i] = e -/
theorem g_set1 {n : Nat} (hi : ds[ii]? = some (some (.ref p))) (h : Ev K (ol K p l :: rs) te ds d (ol K p l :: rs)) (hb : Ev K (ol K p l :: rs) tb ds (.int (n : Int)) (ol K p l :: rs)) (hx : n < l.length)
    (k : G K F0 tNext D ds (ol K p (l.set n d) :: rs)) : G K F0 (tAsg te (gSub (tVar ii) tb rSetL)) D ds (ol K p l :: rs) := fun σ F H s vs o =>
  h σ F H vs o _ fun v F1 H1 s1 dv o1 => by
    refine ⟨_, var_ref vs hi, ?_⟩
    refine hb σ F1 H1 (vs.mono s1) o1 _ fun y F2 H2 s2 dy o2 => ?_
    obtain ⟨xs, hxs, o3⟩ := ol_out o2
    refine ⟨p, xs, (n : Int), n, rfl, dy, pt_ok.mp (own_head o3), ?_, ?_⟩
    · unfold ixN
      rw [if_pos (by omega), if_pos (by rw [dvAll_len hxs]; omega), Int.toNat_natCast]
    · exact k σ F2 _ (s.trans (s1.trans s2)) (vs.mono (s1.trans s2)) (ol_mk (own_upd o3) (dvAll_set n hxs (Dv.mono s2 _ _ dv)))
theorem g_set1i {n : Nat} {v : Int} (hi : ds[ii]? = some (some (.ref p))) (h : Ev K (ol K p (row.map Da.int) :: rs) te ds (.int v) (ol K p (row.map Da.int) :: rs)) (hb : Ev K (ol K p (row.map Da.int) :: rs) tb ds (.int (n : Int)) (ol K p (row.map Da.int) :: rs)) (hx : n < row.length)
    (k : G K F0 tNext D ds (ol K p ((row.set n v).map Da.int) :: rs)) : G K F0 (tAsg te (gSub (tVar ii) tb rSetL)) D ds (ol K p (row.map Da.int) :: rs) := g_set1 hi h hb (by rw [List.length_map]; exact hx) (by rw [← List.map_set]; exact k)
/-- return a new list -/
theorem g_retW {Q : VK} (h : EvN K rs te ds l rs1) (hD : D.rt = Q) (k : ∀ p F H, Sub F0 F → Ow F (ol K p l :: rs1) H → Q (.ref p) H) : G K F0 (tRet te) D ds rs := fun σ F H s vs o => by
  refine h σ F H vs o _ fun p F1 H1 s1 o1 => ?_
  rw [hD]
  exact k p F1 H1 (s.trans s1) o1
/-! ### defs that give what is new and owned -/
def SpE (K : PySem.W.Frag) (R : List Da → List Rs → (Addr → Da) → (Addr → List Rs) → Prop) : Sp := fun vs H Q _ => ∃ F l rs f g, DvAll K F l vs ∧ Ow F rs H ∧ R l rs f g ∧ ∀ p v F' H', Sub F F' → Dv K F' (f p) v → Ow F' (g p) H' → Q v H'
theorem g_asgE {R : List Da → List Rs → (Addr → Da) → (Addr → List Rs) → Prop} {E : XK} {ta : TA} {f : Addr → Da} {g : Addr → List Rs} (h : EvA K rs ta ds l rs1) (hR : R l rs1 f g) (k : ∀ p, G K F0 tz D (ds.set ii (some (f p))) (g p)) :
    G K F0 (tSeq (tAsg (tCall (SpE K R) [] E ta) (gName ii)) tz) D ds rs := fun σ F H s vs o =>
  h σ F H vs o _ fun ws F1 H1 s1 dw o1 => ⟨F1, l, rs1, f, g, by rw [List.append_nil]; exact dw, o1, hR, fun p v F2 H2 s2 dv o2 => k p _ F2 H2 (s.trans (s1.trans s2)) ((vs.mono (s1.trans s2)).set dv) o2⟩
/-! ### the suite of except C as e -/
theorem Vs.unset {σ : L2.St} (h : Vs K F σ ds) : Vs K F (σ.set ii none) (ds.set ii none) := by
  refine ⟨by rw [List.length_set, List.length_set]; exact h.1, fun j d' e => ?_⟩
  by_cases hj : ii = j
  · subst hj
    by_cases hi : ii < ds.length
    · rw [List.getElem?_set_self hi] at e; cases e
    · rw [List.getElem?_eq_none (by rw [List.length_set]; omega)] at e; cases e
  · rw [List.getElem?_set_ne hj] at e ⊢
    exact h.2 j d' e
theorem g_tryAs {R : List Da → List Rs → Da → List Rs → Prop} {RX : List Da → List Rs → Prop} {C : Addr} {c : Value} {ta : TA} {jj : Nat} {ts : Addr → Value → Option Addr → TS} {Wout : WX} (h : EvA K rs ta ds l rs1)
    (hR : (∃ d rs2, R l rs1 d rs2 ∧ G K F0 tz D (ds.set ii (some d)) rs2) ∨ (RX l rs1 ∧ PySem.W.exmOne K (.ref C) c = some true ∧
      ∀ a, G K F0 (ts a (.ref C) none) { nx := fun σ' H' => tz D (σ'.set jj none) H', rt := D.rt, bk := fun σ' H' => D.bk (σ'.set jj none) H', ct := fun σ' H' => D.ct (σ'.set jj none) H' } (ds.set jj (some (.ref a))) rs1)) :
    G K F0 (tSeq (fun D σ H => tAsg (tCallS (SpGX K C R RX) (WE (wAs K c jj ts Wout D)) ta) (gName ii) D σ H) tz) D ds rs := fun σ F H s vs o =>
  h σ F H vs o _ fun ws F1 H1 s1 dw o1 => by
    rcases hR with ⟨d, rs2, hR, k⟩ | ⟨hR, hx, k⟩
    · exact ⟨F1, l, rs1, dw, o1, .inl ⟨d, rs2, hR, fun v F2 H2 s2 dv o2 => k _ F2 H2 (s.trans (s1.trans s2)) ((vs.mono (s1.trans s2)).set dv) o2⟩⟩
    · exact ⟨F1, l, rs1, dw, o1, .inr ⟨hR, fun F2 H2 s2 o2 => ⟨true, hx, fun _ a _ => k a _ F2 H2 (s.trans (s1.trans s2)) ((vs.mono (s1.trans s2)).set rfl) o2, fun z => by cases z⟩⟩⟩
theorem g_unas {jj : Nat} (k : G K F0 tz D (ds.set jj none) rs) : G K F0 tNext { nx := fun σ' H' => tz D (σ'.set jj none) H', rt := D.rt, bk := fun σ' H' => D.bk (σ'.set jj none) H', ct := fun σ' H' => D.ct (σ'.set jj none) H' } ds rs := fun σ F H s vs o => k _ F H s vs.unset o
/-- isinstance(e, c) of the error that the suite holds -/
def rIsE2 (K : PySem.W.Frag) (C : Addr) (a : Addr) (cls : Value) (dd : Option Addr) : List V → Hp → VK → Prop := fun xs H Q => cls = .ref C ∧ dd = none ∧ rIsE K C a xs H Q
theorem call_isE2 {X : Cx} {a C : Addr} {oe : Obj} {cls : Value} {dd : Option Addr} {pn : List (Addr × Obj)} (c : ExcC X.K C) (hz : Zc cls dd oe) (hf : ∃ vs, oe.data = .fields vs) : CallR (X.suite a ((a, oe) :: pn)) (.builtin "isinstance") (rIsE2 X.K C a cls dd) := by
  intro pins s σ H xs us Q I r h
  obtain ⟨rfl, rfl, h⟩ := h
  exact call_isE c hz hf pins s σ H xs us Q I r h
theorem isE {C a : Addr} {c : V} {cv : Value} {b : Bool} (hi : ds[ii]? = some (some (.ref a))) (hc : ∀ u, RelV c u → u = cv) (hk : PySem.W.kitOne K (.ref C) cv = some b) : Ev K rs (tCB (rIsE2 K C a (.ref C) none) (tCons (tVar ii) (tCons (tC c) tNil))) ds (.bl b) rs := fun σ F H vs o Q q =>
  ⟨_, var_ref vs hi, rfl, rfl, c, cv, b, rfl, hc, hk, q _ F H (Sub.refl F) rfl o⟩
end
section
variable {P : Program} {w : World} {K : PySem.W.Frag} {mg : Str → Option Value} {base : Heap} {fa : List He.Fa} {fn : List He.DefD} {ex : PySem.W.Frag → Bool}
theorem df_mkE {x : Str} {N ps : List Str} {k : Nat} {R : List Da → List Rs → (Addr → Da) → (Addr → List Rs) → Prop} {ar : Arguments} {bo : List Stmt} {sc : Scope} (T : Tx fa fn ex w K mg) (i j : Nat) (hi : fn[i]? = some ⟨(x, none), x, x, ar, bo, sc, [], []⟩) (hj : fa[j]? = some (.glo x)) (S : FnScope N ps sc)
    (hb : ∀ (kV doc pm : Value) (an : Option Addr) (cdv ct : Value) (us : List Value), us.length = ps.length → bindArgs (PySem.W.fnOf x x ar bo sc .none kV doc pm an cdv ct) ⟨us, []⟩ = pure (ps.zip us))
    (len : ∀ l rs f g, R l rs f g → l.length = ps.length)
    (hbody : ∀ (f : Addr) (cdv : Value) (A : Around) (outer : List Env) (s : Shared) (H : Hp) (E : XK), Room k (A.deeper (envOfC x sc s.heap.objs.size f cdv)) →
      ∃ t, PSs (cxOf CX0 P w K mg base N x sc f cdv A outer s H E).nox bo t ∧ ∀ (F : Hp) (l : List Da) (rs : List Rs) (f : Addr → Da) (g : Addr → List Rs) (Q : VK), R l rs f g → (∀ p v F' H', Sub F F' → Dv K F' (f p) v → Ow F' (g p) H' → Q v H') →
        G K F t { nx := fun _ H' => Q .non H', rt := Q } (locs l N.length) rs) : Df P w K mg base CX0 (k + 1) x ps (SpE K R) := by
  refine df_mk T i j hi hj S hb (fun vs H Q E h => ?_) (fun f cdv A outer s H vs Q E hr h => ?_)
  · obtain ⟨F, l, rs, f, g, dw, _, hR, _⟩ := h
    rw [dvAll_len dw]; exact len _ _ _ _ hR
  · obtain ⟨F, l, rs, f2, g, dw, o, hR, kk⟩ := h
    obtain ⟨t, h1, h2⟩ := hbody f cdv A outer s H E hr
    exact ⟨t, h1, h2 F l rs f2 g Q hR kk _ F H (Sub.refl F) (vs_start dw) o⟩
end
end Lg
namespace Wr
open PySem PySem.Spec PyProof.Rows L2
/-- what isinstance asks of an own error's class at C, as a check -/
def excB (K : PySem.W.Frag) (C : Addr) : Bool :=
  decide (PySem.W.findIn K (.ref C) "__getattribute__" = some (some (.builtin "BaseException.__getattribute__"))) && (decide (PySem.W.findIn K (.ref C) "__getattr__" = some none) && (decide (PySem.W.subIn K (.ref C) (.type "BaseException") = some true) && (PySem.W.hasDictIn K C &&
  (decide (PySem.W.findIn K (.ref C) "__class__" = some (some (.builtin "object.__class__"))) && (decide (PySem.W.specialIn K (.builtin "object.__class__") "__get__" = some (some (.builtin "getset_descriptor.__get__"))) && (decide (PySem.W.takesIn K (.builtin "object.__class__") = some true) && (decide (PySem.W.mroIn K C (.type "object") = some true) &&
  (decide (PySem.W.kitOne K (.ref C) (.ref C) = some true) && decide (PySem.W.kitOne K (.ref C) (.type "ValueError") = some true)))))))))
theorem excB_ok {K : PySem.W.Frag} {C : Addr} (h : excB K C = true) : ExcC K C ∧ PySem.W.kitOne K (.ref C) (.ref C) = some true ∧ PySem.W.kitOne K (.ref C) (.type "ValueError") = some true := by
  unfold excB at h
  simp only [Bool.and_eq_true, decide_eq_true_eq] at h
  obtain ⟨h1, h2, h3, h4, h5, h6, h7, h8, h9, h10⟩ := h
  exact ⟨⟨h1, h2, h3, h4, h5, h6, h7, h8⟩, h9, h10⟩
end Wr
namespace Lg
open PySem PySem.Spec PyProof.Rows L2 Wr
/-- bytes, new and owned -/
def e_put (K : PySem.W.Frag) (l : List Da) (rs : List Rs) (f : Addr → Da) (g : Addr → List Rs) : Prop := ∃ s, l = [sg s] ∧ s.data.length ≤ 1000 ∧ f = (fun p => .ref p) ∧ g = fun p => ol K p ((M.put s).map Da.int) :: rs
end Lg

namespace M
section
variable {row : List Int}
abbrev p1 (row : List Int) : Bool := decide ((row.length : Int) < 20)
abbrev p2 (row : List Int) : Bool := !(row.map isByte).all id
abbrev p3 (row : List Int) : Bool := !(decide (at_ row 12 = 80) || decide (at_ row 12 = 96)) || (decide (31 < at_ row 13) || decide (0 < at_ row 18 + at_ row 19))
abbrev p4 (row : List Int) : Bool := !(decide (at_ row 12 / 4 ≤ (row.length : Int)) && decide ((row.length : Int) ≤ at_ row 12 / 4 + 16)) || !decide (folded row = 65535)
abbrev p5 (row : List Int) : Bool := decide (at_ row 13 / 2 % 2 = 0) || (!decide (sl row (some 20) (some 22) = [2, 4]) || decide (at_ row 22 * 256 + at_ row 23 < 4))
theorem lr1 (h : p1 row = true) : lread row = none := if_pos h
theorem lr2 (h : p1 row = false) (h2 : p2 row = true) : lread row = none := (if_neg (fne h)).trans (if_pos h2)
theorem lr3 (h : p1 row = false) (h2 : p2 row = false) (h3 : p3 row = true) : lread row = none := (if_neg (fne h)).trans ((if_neg (fne h2)).trans (if_pos h3))
theorem lr4 (h : p1 row = false) (h2 : p2 row = false) (h3 : p3 row = false) (h4 : p4 row = true) : lread row = none := (if_neg (fne h)).trans ((if_neg (fne h2)).trans ((if_neg (fne h3)).trans (if_pos h4)))
theorem lr5 (h : p1 row = false) (h2 : p2 row = false) (h3 : p3 row = false) (h4 : p4 row = false) (h5 : q3 row = true) (h6 : p5 row = true) : lread row = none :=
  (if_neg (fne h)).trans ((if_neg (fne h2)).trans ((if_neg (fne h3)).trans ((if_neg (fne h4)).trans ((if_pos h5).trans (if_pos h6)))))
theorem lr6 (h : p1 row = false) (h2 : p2 row = false) (h3 : p3 row = false) (h4 : p4 row = false) (h5 : q3 row = true) (h6 : p5 row = false) : lread row = some (lread.lseg row (at_ row 22 * 256 + at_ row 23)) :=
  (if_neg (fne h)).trans ((if_neg (fne h2)).trans ((if_neg (fne h3)).trans ((if_neg (fne h4)).trans ((if_pos h5).trans (if_neg (fne h6))))))
theorem lr7 (h : p1 row = false) (h2 : p2 row = false) (h3 : p3 row = false) (h4 : p4 row = false) (h5 : q3 row = false) : lread row = some (lread.lseg row 0) :=
  (if_neg (fne h)).trans ((if_neg (fne h2)).trans ((if_neg (fne h3)).trans ((if_neg (fne h4)).trans (if_neg (fne h5)))))
theorem lrq (h : p4 row = false) : at_ row 12 / 4 ≤ (row.length : Int) := of_decide_eq_true (Bool.and_eq_true_iff.mp (ntf (orf h).1)).1
end
end M
namespace Wr
open PySem PySem.Spec PyProof.Rows L2
theorem ix_listK {X : Cx} {K : PySem.W.Frag} (h : X.K = K) : IxR X (rIxL K) := h ▸ ix_list
theorem ix_tupK {X : Cx} {K : PySem.W.Frag} (h : X.K = K) : IxR X (rIxT K) := h ▸ ix_tup
end Wr

namespace M
section
variable {row : List Int}
theorem at_get {i : Nat} (h : i < row.length) : row[i] = at_ row i := by unfold at_; rw [List.getD_eq_getElem?_getD, List.getElem?_eq_getElem h]; rfl
theorem drop2 {i : Nat} (h : i + 2 ≤ row.length) : (row.drop i).take 2 = [at_ row i, at_ row (i + 1)] := by
  rw [List.drop_eq_getElem_cons (show i < row.length by omega), List.drop_eq_getElem_cons (show i + 1 < row.length by omega), at_get, at_get]
  rfl
theorem drop4 {i : Nat} (h : i + 4 ≤ row.length) : (row.drop i).take 4 = [at_ row i, at_ row (i + 1), at_ row (i + 2), at_ row (i + 3)] := by
  rw [List.drop_eq_getElem_cons (show i < row.length by omega), List.drop_eq_getElem_cons (show i + 1 < row.length by omega), List.drop_eq_getElem_cons (show i + 2 < row.length by omega), List.drop_eq_getElem_cons (show i + 3 < row.length by omega), at_get, at_get, at_get, at_get]
  rfl
theorem num2 {i : Nat} (h : i + 2 ≤ row.length) : number_of (sl row (some (i : Int)) (some ((i + 2 : Nat) : Int))) = 256 * at_ row i + at_ row (i + 1) := by
  rw [sl_mid, show i + 2 - i = 2 by omega, drop2 h]
  show (0 * 256 + at_ row i) * 256 + at_ row (i + 1) = _
  omega
theorem num4 {i : Nat} (h : i + 4 ≤ row.length) : number_of (sl row (some (i : Int)) (some ((i + 4 : Nat) : Int))) = (256 * at_ row i + at_ row (i + 1)) * 65536 + (256 * at_ row (i + 2) + at_ row (i + 3)) := by
  rw [sl_mid, show i + 4 - i = 4 by omega, drop4 h]
  show (((0 * 256 + at_ row i) * 256 + at_ row (i + 1)) * 256 + at_ row (i + 2)) * 256 + at_ row (i + 3) = _
  omega
theorem getS_lseg (h : 20 ≤ row.length) {m : Int} (hm : m = if decide (at_ row 12 / 4 = 24) = true then number_of (sl row (some 22) (some 24)) else 0) : lread.lseg row m = getS row := by
  refine seg_ext ?_ ?_ ?_ ?_ rfl ?_ hm rfl
  · exact (num2 (i := 0) (by omega)).symm
  · exact (num2 (i := 2) (by omega)).symm
  · exact (num4 (i := 4) (by omega)).symm
  · exact (num4 (i := 8) (by omega)).symm
  · exact (num2 (i := 14) (by omega)).symm
theorem bytes_all (h : By row) : (row.map isByte).all id = true := by
  rw [List.all_map]
  exact List.all_eq_true.mpr fun x hx => by
    have := h x hx
    show isByte x = true
    unfold isByte
    rw [decide_eq_true this.1, decide_eq_true this.2]; rfl
theorem right_folded (h : isRight row = true) : folded row = 65535 := by
  have h1 := isRight_q1 h
  have h2 := isRight_q2 h
  cases h3 : q3 row with
  | false => rw [isR5 h1 h2 h3] at h; exact of_decide_eq_true h
  | true =>
    cases h4 : q4 row with
    | true => rw [isR3 h1 h2 h3 h4] at h; cases h
    | false => rw [isR4 h1 h2 h3 h4] at h; exact of_decide_eq_true h
theorem or_f {a b : Bool} (h1 : a = false) (h2 : b = false) : (a || b) = false := by rw [h1, h2]; rfl
theorem nt_t {a : Bool} (h : a = true) : (!a) = false := by rw [h]; rfl
theorem read_right (hb : By row) (h : isRight row = true) : lread row = some (getS row) := by
  have h1 := isRight_q1 h
  have h2 := isRight_q2 h
  obtain ⟨l1, l2, l3⟩ := isQ1 h1
  obtain ⟨l4, l5, l6, l7⟩ := isQ2 h2
  have hf := right_folded h
  have e1 : p1 row = false := decide_eq_false (by omega)
  have e2 : p2 row = false := nt_t (bytes_all hb)
  have e3 : p3 row = false := or_f (orf (orf h1).2).1 (or_f (decide_eq_false (by omega)) (decide_eq_false (by omega)))
  have e4 : p4 row = false := or_f (nt_t (by rw [decide_eq_true l4, decide_eq_true (show (row.length : Int) ≤ at_ row 12 / 4 + 16 by omega)]; rfl)) (nt_t (decide_eq_true hf))
  cases h3 : q3 row with
  | false =>
    rw [lr7 e1 e2 e3 e4 h3]
    exact congrArg some (getS_lseg l1 (if_neg (fne h3)).symm)
  | true =>
    cases h4 : q4 row with
    | true => rw [isR3 h1 h2 h3 h4] at h; cases h
    | false =>
      have l8 := isQ3 (of_decide_eq_true h3) l4
      obtain ⟨g1, g2⟩ := orf h4
      obtain ⟨g3, g4⟩ := orf g2
      obtain ⟨g5, g6⟩ := orf g4
      have g7 : at_ row 20 = 2 := of_decide_eq_true (ntf g3)
      have g8 : at_ row 21 = 4 := of_decide_eq_true (ntf g5)
      have g9 := of_decide_eq_false g6
      have n22 : number_of (sl row (some 22) (some 24)) = 256 * at_ row 22 + at_ row 23 := num2 (i := 22) (by omega)
      have s20 : sl row (some 20) (some 22) = [2, 4] := by
        rw [show sl row (some 20) (some 22) = (row.drop 20).take 2 from sl_mid _ 20 22, drop2 (by omega), g7, g8]
      have e5 : p5 row = false := or_f g1 (or_f (nt_t (decide_eq_true s20)) (decide_eq_false (by omega)))
      rw [lr6 e1 e2 e3 e4 h3 e5]
      refine congrArg some (getS_lseg l1 ?_)
      rw [if_pos h3, n22]
      omega
theorem right_of_read (hb : By row) (h : lread row ≠ none) : isRight row = true := by
  cases e1 : p1 row with
  | true => exact absurd (lr1 e1) h
  | false =>
  cases e2 : p2 row with
  | true => exact absurd (lr2 e1 e2) h
  | false =>
  cases e3 : p3 row with
  | true => exact absurd (lr3 e1 e2 e3) h
  | false =>
  cases e4 : p4 row with
  | true => exact absurd (lr4 e1 e2 e3 e4) h
  | false =>
  have l1 : 20 ≤ row.length := by have := of_decide_eq_false e1; omega
  obtain ⟨a1, a2⟩ := orf e3
  obtain ⟨a3, a4⟩ := orf a2
  obtain ⟨b1, b2⟩ := orf e4
  obtain ⟨b3, b4⟩ := Bool.and_eq_true_iff.mp (ntf b1)
  have c1 := of_decide_eq_false a4
  have c2 := of_decide_eq_true b3
  have c3 := of_decide_eq_true b4
  have hf : folded row = 65535 := of_decide_eq_true (ntf b2)
  have m18 : 0 ≤ at_ row 18 := by rw [← at_get (show 18 < row.length by omega)]; exact (hb _ (List.getElem_mem _)).1
  have m19 : 0 ≤ at_ row 19 := by rw [← at_get (show 19 < row.length by omega)]; exact (hb _ (List.getElem_mem _)).1
  have h1 : q1 row = false := or_f (decide_eq_false (by omega)) (or_f a1 a3)
  have h2 : q2 row = false := or_f (decide_eq_false (by omega)) (or_f (decide_eq_false (by omega)) (or_f (nt_t (decide_eq_true (by omega))) (nt_t (decide_eq_true (by omega)))))
  cases h3 : q3 row with
  | false => rw [isR5 h1 h2 h3]; exact decide_eq_true hf
  | true =>
    cases e5 : p5 row with
    | true => exact absurd (lr5 e1 e2 e3 e4 h3 e5) h
    | false =>
      have l8 := isQ3 (of_decide_eq_true h3) c2
      obtain ⟨g1, g2⟩ := orf e5
      obtain ⟨g3, g4⟩ := orf g2
      have s20 : sl row (some 20) (some 22) = [2, 4] := of_decide_eq_true (ntf g3)
      rw [show sl row (some 20) (some 22) = (row.drop 20).take 2 from sl_mid _ 20 22, drop2 (by omega)] at s20
      have g7 : at_ row 20 = 2 := (List.cons.inj s20).1
      have g8 : at_ row 21 = 4 := (List.cons.inj (List.cons.inj s20).2).1
      have n22 : number_of (sl row (some 22) (some 24)) = 256 * at_ row 22 + at_ row 23 := num2 (i := 22) (by omega)
      have g9 := of_decide_eq_false g4
      have h4 : q4 row = false := or_f g1 (or_f (nt_t (decide_eq_true g7)) (or_f (nt_t (decide_eq_true g8)) (decide_eq_false (by omega))))
      rw [isR4 h1 h2 h3 h4]
      exact decide_eq_true hf
/-- the law's own look, and the program's -/
theorem read_eq (hb : By row) : lread row = if isRight row = true then some (getS row) else none := by
  by_cases h : isRight row = true
  · rw [if_pos h]; exact read_right hb h
  · rw [if_neg h]
    cases e : lread row with
    | none => rfl
    | some s => exact absurd (right_of_read hb (by rw [e]; exact fun z => nomatch z)) h
theorem wsum_set : ∀ {l : List Int} {i : Nat} (v : Int), i < l.length → wsum (l.set i v) = wsum l + (v - at_ l i) * (if i % 2 = 0 then 256 else 1)
  | [], _, _, h => absurd h (Nat.not_lt_zero _)
  | [a], 0, v, _ => by show 256 * v = 256 * a + (v - a) * 256; omega
  | [a], i + 1, v, h => by simp at h
  | a :: b :: r, 0, v, _ => by show 256 * v + b + wsum r = 256 * a + b + wsum r + (v - a) * 256; omega
  | a :: b :: r, 1, v, _ => by show 256 * a + v + wsum r = 256 * a + b + wsum r + (v - b) * 1; omega
  | a :: b :: r, i + 2, v, h => by
    have ih := wsum_set (l := r) (i := i) v (by simp only [List.length_cons] at h; omega)
    show 256 * a + b + wsum (r.set i v) = 256 * a + b + wsum r + (v - at_ r i) * (if (i + 2) % 2 = 0 then 256 else 1)
    rw [ih, show (i + 2) % 2 = i % 2 by omega]
    omega
theorem By.set {l : List Int} (h : By l) {i : Nat} {v : Int} (hv : 0 ≤ v ∧ v ≤ 255) : By (l.set i v) := fun x hx => by
  rcases List.mem_or_eq_of_mem_set hx with z | z
  · exact h x z
  · rw [z]; exact hv
/-- one byte turned -/
theorem flip_none {l : List Int} (hb : By l) (hf : folded l = 65535) {i : Nat} (hi : i < l.length) {v : Int} (hv : 0 ≤ v ∧ v ≤ 255) (hn : v ≠ at_ l i) : lread (l.set i v) = none := by
  cases e : lread (l.set i v) with
  | none => rfl
  | some s =>
    have hb2 := hb.set (i := i) hv
    have f2 := right_folded (right_of_read hb2 (by rw [e]; exact fun z => nomatch z))
    have w := wsum_set v hi
    obtain ⟨_, _, c1, _⟩ := fold_range (wsum_nn hb)
    obtain ⟨_, _, c2, _⟩ := fold_range (wsum_nn hb2)
    have d1 : fold (wsum l) = 65535 := hf
    have d2 : fold (wsum (l.set i v)) = 65535 := f2
    have r := hb (l[i]) (List.getElem_mem _)
    rw [at_get hi] at r
    split at w <;> omega
theorem By.sl {l : List Int} (h : By l) (lo hi : Option Int) : By (sl l lo hi) := fun x hx => h x (List.mem_of_mem_drop (List.mem_of_mem_take hx))
theorem By.two {n : Int} (h : 0 ≤ n ∧ n ≤ 65535) : By (two n) := by
  unfold By M.two
  simp only [List.forall_mem_cons]
  exact ⟨by omega, by omega, fun x hx => nomatch hx⟩
/-- the places changed, with the sum set right -/
def somes : List (Nat × Int) := [(12, 112), (12, 96), (12, 80), (12, 64), (13, 32), (13, 31), (18, 1), (19, 1), (20, 3), (21, 5), (22, 0), (23, 3), (13, 0), (0, 9)]
end
end M
namespace Lg
open PySem PySem.Spec PyProof.Rows L2 Wr
def pairD (x : Nat × Int) : Da := .tup [.int (x.1 : Int), .int x.2]
theorem somes_at {z : Int} (h : 0 ≤ z ∧ z < 14) : ∃ (i : Nat) (x : Nat × Int), z = (i : Int) ∧ (M.somes.map pairD)[i]? = some (pairD x) ∧ 0 ≤ x.2 ∧ x.2 ≤ 255 := by
  obtain ⟨i, rfl⟩ : ∃ i : Nat, z = (i : Int) := ⟨z.toNat, by omega⟩
  have hi : i < M.somes.length := by show i < 14; omega
  refine ⟨i, M.somes[i], rfl, ?_, ?_⟩
  · rw [List.getElem?_map, List.getElem?_eq_getElem hi]; rfl
  · have : ∀ x ∈ M.somes, 0 ≤ x.2 ∧ x.2 ≤ 255 := by decide
    exact this _ (List.getElem_mem _)
section
variable {K : PySem.W.Frag} {F0 F H : Hp} {D : Ends} {ds : List (Option Da)} {rs rs1 rs2 rs3 : List Rs} {te : TE} {l : List Da} {ii : Nat}
theorem g_own1 (h : EvN K rs te ds l rs1) (k : ∀ p, G K F0 tNext D (ds.set ii (some (.ref p))) (ol K p l :: rs1)) : G K F0 (tAsg te (gName ii)) D ds rs := g_own (tz := tNext) h k
end
end Lg
namespace M
theorem fin_by {r : List Int} (h : By r) : By (sl r none (some 16) ++ [0, 0] ++ sl r (some 18) none) := by
  refine ((By.sl h _ _).app ?_).app (By.sl h _ _)
  intro x hx
  simp only [List.mem_cons, List.not_mem_nil, or_false, or_self] at hx
  rw [hx]; decide
theorem fin_lenR {r : List Int} (h : r.length ≤ 80) : (sl r none (some 16) ++ [0, 0] ++ sl r (some 18) none).length ≤ 100 ∧ (sl r none (some 16) ++ [0, 0]).length + (sl r (some 18) none).length ≤ 100 ∧ (sl r none (some 16)).length + ([0, 0] : List Int).length ≤ 100 := by
  have h0 : (sl r none (some 16)).length + (sl r (some 18) none).length ≤ 98 := by
    rw [show sl r none (some 16) = r.take 16 from sl_to r 16, show sl r (some 18) none = r.drop 18 from sl_from r 18, List.length_take, List.length_drop]
    omega
  simp only [List.length_append, List.length_cons, List.length_nil]
  omega
end M
namespace M
theorem put_len3 (R : List Int) (x : Int) : (sl R none (some 16) ++ two x ++ sl R (some 18) none).length ≤ R.length + 2 := by
  rw [show sl R none (some 16) = R.take 16 from sl_to R 16, show sl R (some 18) none = R.drop 18 from sl_from R 18, List.length_append, List.length_append, List.length_take, List.length_drop]
  show _ + 2 + _ ≤ _
  omega
end M

/-! Ends and piles in the logic. -/
namespace Wr
open PySem PySem.Spec PyProof.Rows L2 Evl
theorem epu_out {e : M.EndS} {ol pp a : Addr} {rv : V} {n : List Int} : putF ("out" : Str) (.ref a) (eflds e ol pp rv) = eflds { e with out := n } a pp rv := by kernel_rfl
theorem epu_reset {e : M.EndS} {ol pp : Addr} {rv y : V} {n : Option M.Seg} : putF ("reset" : Str) y (eflds e ol pp rv) = eflds { e with reset := n } ol pp y := by kernel_rfl
/-- what the top must say of the classes, as a check -/
def endB (K : PySem.W.Frag) : Bool :=
  He.Fa.ok K (.cls "End") && (He.Fa.ok K (.cls "Pile") && ((["ours", "theirs", "first", "state", "una", "nxt", "synced", "rcv", "wnd", "told", "told_by", "most", "out", "pile", "fin", "fin_gone", "reset", "owes_syn", "owes_answer", "since", "wait", "tries", "probing", "error"] : List Str).all (fun f => He.Fa.ok K (.noat "End" f)) &&
  ((["held", "come", "early", "last"] : List Str).all (fun f => He.Fa.ok K (.noat "Pile" f)) && (He.Fa.ok K (.mkr "End") && (He.Fa.ok K (.mkr "Pile") && (["room", "keep", "keep_end", "settle", "is_over", "taken"] : List Str).all (fun m => He.Fa.ok K (.meth "Pile" m)))))))
theorem endB_ok {K : PySem.W.Frag} (h : endB K = true) : EndF K ∧ Mk K (cE K) (He.ma K (cE K) "__init__") ∧ Mk K (cP K) (He.ma K (cP K) "__init__") ∧ ∀ m ∈ (["room", "keep", "keep_end", "settle", "is_over", "taken"] : List Str), Meth K (cP K) m (He.ma K (cP K) m) := by
  unfold endB at h
  obtain ⟨h1, h⟩ := Bool.and_eq_true_iff.mp h
  obtain ⟨h2, h⟩ := Bool.and_eq_true_iff.mp h
  obtain ⟨h3, h⟩ := Bool.and_eq_true_iff.mp h
  obtain ⟨h4, h⟩ := Bool.and_eq_true_iff.mp h
  obtain ⟨h5, h⟩ := Bool.and_eq_true_iff.mp h
  obtain ⟨h6, h7⟩ := Bool.and_eq_true_iff.mp h
  exact ⟨⟨He.cls_ok h1, He.cls_ok h2, fun f hf => He.noat_ok (List.all_eq_true.mp h3 f hf), fun f hf => He.noat_ok (List.all_eq_true.mp h4 f hf)⟩, He.mkr_ok h5, He.mkr_ok h6, fun m hm => He.meth_ok (List.all_eq_true.mp h7 m hm)⟩
end Wr
namespace Lg
open PySem PySem.Spec PyProof.Rows L2 Wr
abbrev stx (s : M.St) : Str := Str.ofString s.txt
abbrev etx (s : M.Er) : Str := Str.ofString s.txt
/-- the record of an end, its pile at pp -/
def recR (K : PySem.W.Frag) (p : Addr) (e : M.EndS) (pp : Addr) : Rs := ⟨fun F => exk fun (dx : Addr) => exk fun (ol : Addr) => exk fun (rv : V) => sep [pt p (.ins (cE K) dx (eflds e ol pp rv)), pur (F ol = some (.lst (e.out.map V.int)) ∧ Dv K F (osg e.reset) rv)], fun F F' H s h => by
  obtain ⟨dx, h⟩ := exk_ok.mp h
  obtain ⟨ol, h⟩ := exk_ok.mp h
  obtain ⟨rv, h⟩ := exk_ok.mp h
  have o := sep_ok.mp h
  obtain ⟨h1, h2⟩ := pur_ok.mp (own_head (own_tail o))
  exact exk_ok.mpr ⟨dx, exk_ok.mpr ⟨ol, exk_ok.mpr ⟨rv, sep_ok.mpr (own_swap (own_pur.mpr ⟨⟨s _ _ h1, Dv.mono s _ _ h2⟩, own_tail (own_swap o)⟩))⟩⟩⟩⟩
def pileR (K : PySem.W.Frag) (pp : Addr) (q : M.PileS) : Rs := ⟨fun _ => pileA K pp q, fun _ _ _ _ h => h⟩
def endR (K : PySem.W.Frag) (p : Addr) (e : M.EndS) : Rs := ⟨fun F => exk fun (pp : Addr) => sep [(recR K p e pp).ck F, (pileR K pp e.pile).ck F], fun F F' H s h => by
  obtain ⟨pp, h⟩ := exk_ok.mp h
  obtain ⟨H1, H2, s1, s2, d, e1, H3, H4, s3, s4, d2, e2, t⟩ := sep_ok.mp h
  exact exk_ok.mpr ⟨pp, sep_ok.mpr ⟨H1, H2, s1, s2, d, (recR K p e pp).mo _ _ _ s e1, H3, H4, s3, s4, d2, e2, t⟩⟩⟩
section
variable {K : PySem.W.Frag} {F0 F H : Hp} {D : Ends} {ds : List (Option Da)} {rs rs0 rs1 rs2 rs3 rest : List Rs} {ta tb tv : TE} {tA : TA} {tz t : TS} {d : Da} {l : List Da} {p pp : Addr} {e e' : M.EndS} {f : Str}
theorem end_open (o : Ow F (endR K p e :: rs) H) : ∃ pp, Ow F (recR K p e pp :: pileR K pp e.pile :: rs) H := by
  obtain ⟨pp, o2⟩ := own_ex.mp (own_swap o)
  have o3 := own_sep.mp o2
  exact ⟨pp, own_swap (own_tl (fun _ o => own_swap o) o3) |> fun o4 => by
    have o5 : Own ((recR K p e pp).ck F :: (pileR K pp e.pile).ck F :: fz F :: rs.map fun r => r.ck F) H := o3
    exact own_swap (own_tl (fun _ o => own_swap o) o5) |> fun o6 => own_swap (own_tl (fun _ o => own_swap o) (own_swap (own_tl (fun _ o => o) (own_swap o6)))) |> fun _ => by
      have a := own_tl (fun _ o => own_swap o) o5
      exact own_swap a⟩
theorem end_close (o : Ow F (recR K p e pp :: pileR K pp e.pile :: rs) H) : Ow F (endR K p e :: rs) H := by
  refine own_swap (own_ex.mpr ⟨pp, own_sep.mpr ?_⟩)
  exact own_tl (fun _ o => own_swap o) (own_swap o)
theorem rec_out (o : Ow F (recR K p e pp :: rs) H) : ∃ dx ol rv, F ol = some (.lst (e.out.map V.int)) ∧ Dv K F (osg e.reset) rv ∧ Own (pt p (.ins (cE K) dx (eflds e ol pp rv)) :: fz F :: rs.map fun r => r.ck F) H := by
  obtain ⟨dx, o2⟩ := own_ex.mp (own_swap o)
  obtain ⟨ol, o3⟩ := own_ex.mp o2
  obtain ⟨rv, o4⟩ := own_ex.mp o3
  have o5 := own_sep.mp o4
  obtain ⟨⟨h1, h2⟩, o6⟩ := own_pur.mp (own_swap o5)
  exact ⟨dx, ol, rv, h1, h2, o6⟩
theorem rec_mk {dx ol : Addr} {rv : V} (h1 : F ol = some (.lst (e.out.map V.int))) (h2 : Dv K F (osg e.reset) rv) (o : Own (pt p (.ins (cE K) dx (eflds e ol pp rv)) :: fz F :: rs.map fun r => r.ck F) H) : Ow F (recR K p e pp :: rs) H :=
  own_swap (own_ex.mpr ⟨dx, own_ex.mpr ⟨ol, own_ex.mpr ⟨rv, own_sep.mpr (own_swap (own_pur.mpr ⟨⟨h1, h2⟩, o⟩))⟩⟩⟩)
theorem fldE (E : EndF K) (ho : Ev K rs0 ta ds (.ref p) rs) (hp : Pick (endR K p e) rs rest) (na : NoAttr K (cE K) f) (lk : ∀ F ol pp rv, F ol = some (.lst (e.out.map V.int)) → Dv K F (osg e.reset) rv → ∃ v, (eflds e ol pp rv).lookup f = some v ∧ Dv K F d v) :
    Ev K rs0 (tFld K ta f) ds d rs := fun σ F H vs o Q q => ho σ F H vs o _ fun x F1 H1 s1 dx o1 => by
  obtain ⟨pp, o2⟩ := end_open (ow_pick hp o1)
  obtain ⟨dx', ol, rv, h1, h2, o3⟩ := rec_out o2
  obtain ⟨v, g1, g2⟩ := lk F1 ol pp rv h1 h2
  exact ⟨p, cE K, dx', _, v, dx, pt_ok.mp (own_head o3), E.cl, na, g1, q v F1 H1 s1 g2 o1⟩
theorem setE (E : EndF K) (hv : Ev K rs tv ds d rs1) (ho : Ev K rs1 ta ds (.ref p) rs1) (hp : Put (endR K p e) (endR K p e') rs1 rs2) (hpi : e'.pile = e.pile) (na : NoAttr K (cE K) f)
    (hu : ∀ F ol pp rv y, F ol = some (.lst (e.out.map V.int)) → Dv K F (osg e.reset) rv → Dv K F d y → ∃ ol' rv', putF f y (eflds e ol pp rv) = eflds e' ol' pp rv' ∧ F ol' = some (.lst (e'.out.map V.int)) ∧ Dv K F (osg e'.reset) rv')
    (k : G K F0 tz D ds rs2) : G K F0 (tSeq (sFld K ta tv f) tz) D ds rs := fun σ F H s vs o =>
  hv σ F H vs o _ fun y F1 H1 s1 dy o1 => ho σ F1 H1 (vs.mono s1) o1 _ fun x F2 H2 s2 dx o2 => by
    obtain ⟨m, hp1, hp2⟩ := hp.two
    obtain ⟨pp, o3⟩ := end_open (ow_pick hp1 o2)
    obtain ⟨dx', ol, rv, h1, h2, o4⟩ := rec_out o3
    obtain ⟨ol', rv', g1, g2, g3⟩ := hu F2 ol pp rv y h1 h2 (Dv.mono s2 _ _ dy)
    refine ⟨p, cE K, dx', _, dx, pt_ok.mp (own_head o4), E.cl, na, by show 24 < 1000; decide, ?_⟩
    refine k σ F2 _ (s.trans (s1.trans s2)) (vs.mono (s1.trans s2)) (ow_back hp2 (end_close (pp := pp) (rec_mk (ol := ol') (rv := rv') (dx := dx') g2 g3 ?_)))
    rw [g1, hpi]
    exact own_upd o4
theorem setE1 (E : EndF K) (hv : Ev K rs tv ds d rs1) (ho : Ev K rs1 ta ds (.ref p) rs1) (hp : Put (endR K p e) (endR K p e') rs1 rs2) (hpi : e'.pile = e.pile) (na : NoAttr K (cE K) f)
    (hu : ∀ F ol pp rv y, F ol = some (.lst (e.out.map V.int)) → Dv K F (osg e.reset) rv → Dv K F d y → ∃ ol' rv', putF f y (eflds e ol pp rv) = eflds e' ol' pp rv' ∧ F ol' = some (.lst (e'.out.map V.int)) ∧ Dv K F (osg e'.reset) rv')
    (k : G K F0 tNext D ds rs2) : G K F0 (sFld K ta tv f) D ds rs := setE (tz := tNext) E hv ho hp hpi na hu k
/-! ### calls -/
def RE (K : PySem.W.Frag) (f : M.EndS → List Da → M.EndS → Da → Prop) : List Da → List Rs → Da → List Rs → Prop := fun l rs d rs' => ∃ p e args r e', l = .ref p :: args ∧ rs = endR K p e :: r ∧ f e args e' d ∧ rs' = endR K p e' :: r
def RQ (K : PySem.W.Frag) (f : M.PileS → List Da → M.PileS → Da → Prop) : List Da → List Rs → Da → List Rs → Prop := fun l rs d rs' => ∃ p e args r e', l = .ref p :: args ∧ rs = pileR K p e :: r ∧ f e args e' d ∧ rs' = pileR K p e' :: r
theorem callE {f : M.EndS → List Da → M.EndS → Da → Prop} {X : XK} (h : EvA K rs tA ds (.ref p :: l) rs1) (hp : Put (endR K p e) (endR K p e') rs1 rs2) (hf : f e l e' d) : Ev K rs (tCall (SpG K (RE K f)) [] X tA) ds d rs2 := fun σ F H vs o Q q =>
  h σ F H vs o _ fun ws F1 H1 s1 dw o1 => by
    obtain ⟨m, hp1, hp2⟩ := hp.two
    exact ⟨F1, _, _, d, _, by rw [List.append_nil]; exact dw, ow_pick hp1 o1, ⟨p, e, l, m, e', rfl, rfl, hf, rfl⟩, fun v F2 H2 s2 dv o2 => q v F2 H2 (s1.trans s2) dv (ow_back hp2 o2)⟩
theorem pile_out {q : M.PileS} (o : Ow F (pileR K pp q :: rs) H) : ∃ dx hl el, Own (pt pp (.ins (cP K) dx (pflds q hl el)) :: pt hl (.lst (q.held.map V.int)) :: pt el (.dK (kvE q.early)) :: fz F :: rs.map fun r => r.ck F) H := by
  have o1 : Own (pileA K pp q :: fz F :: rs.map fun r => r.ck F) H := own_swap o
  unfold pileA at o1
  obtain ⟨dx, o2⟩ := own_ex.mp o1
  obtain ⟨hl, o3⟩ := own_ex.mp o2
  obtain ⟨el, o4⟩ := own_ex.mp o3
  exact ⟨dx, hl, el, own_sep.mp o4⟩
theorem pile_mk {q : M.PileS} {dx hl el : Addr} (o : Own (pt pp (.ins (cP K) dx (pflds q hl el)) :: pt hl (.lst (q.held.map V.int)) :: pt el (.dK (kvE q.early)) :: fz F :: rs.map fun r => r.ck F) H) : Ow F (pileR K pp q :: rs) H := by
  refine own_swap ?_
  show Own (pileA K pp q :: fz F :: rs.map fun r => r.ck F) H
  unfold pileA
  exact own_ex.mpr ⟨dx, own_ex.mpr ⟨hl, own_ex.mpr ⟨el, own_sep.mpr o⟩⟩⟩
/-- end.pile.m(..) -/
theorem pileE {f : M.PileS → List Da → M.PileS → Da → Prop} {m : Str} {q' : M.PileS} {X : XK} (E : EndF K) (ho : Ev K rs ta ds (.ref p) rs) (hp : Put (endR K p e) (endR K p { e with pile := q' }) rs rs2) (ha : ∀ rs', EvA K rs' tA ds l rs') (hm : ∀ q hl el, (pflds q hl el).lookup m = none) (hf : f e.pile l q' d) :
    Ev K rs (tMeth (cP K) m (SpG K (RQ K f)) [] X (tFld K ta "pile") tA) ds d rs2 := fun σ F H vs o Q q => ho σ F H vs o _ fun x F1 H1 s1 dx o1 => by
  obtain ⟨mm, hp1, hp2⟩ := hp.two
  obtain ⟨pp, o2⟩ := end_open (ow_pick hp1 o1)
  obtain ⟨dx', ol, rv, h1, h2, o3⟩ := rec_out o2
  refine ⟨p, cE K, dx', _, .ref pp, dx, pt_ok.mp (own_head o3), E.cl, E.na _ (by simp), elk_pile, ?_⟩
  have o4 : Ow F1 (pileR K pp e.pile :: recR K p e pp :: mm) H1 := ow_swap o2
  obtain ⟨dx2, hl, el, o5⟩ := pile_out o4
  refine ⟨pp, dx2, _, rfl, pt_ok.mp (own_head o5), hm _ _ _, ?_⟩
  refine ha _ σ F1 H1 (vs.mono s1) o4 _ fun ws F2 H2 s2 dw o6 => ?_
  refine ⟨F2, .ref pp :: l, _, d, _, by rw [List.append_nil]; exact ⟨_, _, rfl, rfl, dw⟩, o6, ⟨pp, e.pile, l, _, q', rfl, rfl, hf, rfl⟩, fun v F3 H3 s3 dv o7 => ?_⟩
  refine q v F3 H3 ((s1.trans s2).trans s3) dv (ow_back hp2 (end_close (pp := pp) ?_))
  exact ow_swap o7
end

section
variable {K : PySem.W.Frag} {F0 : Hp} {D : Ends} {ds : List (Option Da)} {rs rs0 rs1 rs2 rest : List Rs} {ta tv : TE} {tz : TS} {p : Addr} {e : M.EndS}
theorem r_ours (E : EndF K) (ho : Ev K rs0 ta ds (.ref p) rs) (hp : Pick (endR K p e) rs rest) : Ev K rs0 (tFld K ta "ours") ds (.int e.ours) rs := fldE E ho hp (E.na _ (by simp)) fun F ol pp rv h1 h2 => ⟨_, elk_ours, rfl⟩
theorem r_theirs (E : EndF K) (ho : Ev K rs0 ta ds (.ref p) rs) (hp : Pick (endR K p e) rs rest) : Ev K rs0 (tFld K ta "theirs") ds (.int e.theirs) rs := fldE E ho hp (E.na _ (by simp)) fun F ol pp rv h1 h2 => ⟨_, elk_theirs, rfl⟩
theorem r_first (E : EndF K) (ho : Ev K rs0 ta ds (.ref p) rs) (hp : Pick (endR K p e) rs rest) : Ev K rs0 (tFld K ta "first") ds (.int e.first) rs := fldE E ho hp (E.na _ (by simp)) fun F ol pp rv h1 h2 => ⟨_, elk_first, rfl⟩
theorem r_una (E : EndF K) (ho : Ev K rs0 ta ds (.ref p) rs) (hp : Pick (endR K p e) rs rest) : Ev K rs0 (tFld K ta "una") ds (.int e.una) rs := fldE E ho hp (E.na _ (by simp)) fun F ol pp rv h1 h2 => ⟨_, elk_una, rfl⟩
theorem r_nxt (E : EndF K) (ho : Ev K rs0 ta ds (.ref p) rs) (hp : Pick (endR K p e) rs rest) : Ev K rs0 (tFld K ta "nxt") ds (.int e.nxt) rs := fldE E ho hp (E.na _ (by simp)) fun F ol pp rv h1 h2 => ⟨_, elk_nxt, rfl⟩
theorem r_rcv (E : EndF K) (ho : Ev K rs0 ta ds (.ref p) rs) (hp : Pick (endR K p e) rs rest) : Ev K rs0 (tFld K ta "rcv") ds (.int e.rcv) rs := fldE E ho hp (E.na _ (by simp)) fun F ol pp rv h1 h2 => ⟨_, elk_rcv, rfl⟩
theorem r_wnd (E : EndF K) (ho : Ev K rs0 ta ds (.ref p) rs) (hp : Pick (endR K p e) rs rest) : Ev K rs0 (tFld K ta "wnd") ds (.int e.wnd) rs := fldE E ho hp (E.na _ (by simp)) fun F ol pp rv h1 h2 => ⟨_, elk_wnd, rfl⟩
theorem r_told (E : EndF K) (ho : Ev K rs0 ta ds (.ref p) rs) (hp : Pick (endR K p e) rs rest) : Ev K rs0 (tFld K ta "told") ds (.int e.told) rs := fldE E ho hp (E.na _ (by simp)) fun F ol pp rv h1 h2 => ⟨_, elk_told, rfl⟩
theorem r_told_by (E : EndF K) (ho : Ev K rs0 ta ds (.ref p) rs) (hp : Pick (endR K p e) rs rest) : Ev K rs0 (tFld K ta "told_by") ds (.int e.told_by) rs := fldE E ho hp (E.na _ (by simp)) fun F ol pp rv h1 h2 => ⟨_, elk_told_by, rfl⟩
theorem r_most (E : EndF K) (ho : Ev K rs0 ta ds (.ref p) rs) (hp : Pick (endR K p e) rs rest) : Ev K rs0 (tFld K ta "most") ds (.int e.most) rs := fldE E ho hp (E.na _ (by simp)) fun F ol pp rv h1 h2 => ⟨_, elk_most, rfl⟩
theorem r_since (E : EndF K) (ho : Ev K rs0 ta ds (.ref p) rs) (hp : Pick (endR K p e) rs rest) : Ev K rs0 (tFld K ta "since") ds (.int e.since) rs := fldE E ho hp (E.na _ (by simp)) fun F ol pp rv h1 h2 => ⟨_, elk_since, rfl⟩
theorem r_wait (E : EndF K) (ho : Ev K rs0 ta ds (.ref p) rs) (hp : Pick (endR K p e) rs rest) : Ev K rs0 (tFld K ta "wait") ds (.int e.wait) rs := fldE E ho hp (E.na _ (by simp)) fun F ol pp rv h1 h2 => ⟨_, elk_wait, rfl⟩
theorem r_tries (E : EndF K) (ho : Ev K rs0 ta ds (.ref p) rs) (hp : Pick (endR K p e) rs rest) : Ev K rs0 (tFld K ta "tries") ds (.int e.tries) rs := fldE E ho hp (E.na _ (by simp)) fun F ol pp rv h1 h2 => ⟨_, elk_tries, rfl⟩
theorem r_synced (E : EndF K) (ho : Ev K rs0 ta ds (.ref p) rs) (hp : Pick (endR K p e) rs rest) : Ev K rs0 (tFld K ta "synced") ds (.bl e.synced) rs := fldE E ho hp (E.na _ (by simp)) fun F ol pp rv h1 h2 => ⟨_, elk_synced, rfl⟩
theorem r_fin (E : EndF K) (ho : Ev K rs0 ta ds (.ref p) rs) (hp : Pick (endR K p e) rs rest) : Ev K rs0 (tFld K ta "fin") ds (.bl e.fin) rs := fldE E ho hp (E.na _ (by simp)) fun F ol pp rv h1 h2 => ⟨_, elk_fin, rfl⟩
theorem r_fin_gone (E : EndF K) (ho : Ev K rs0 ta ds (.ref p) rs) (hp : Pick (endR K p e) rs rest) : Ev K rs0 (tFld K ta "fin_gone") ds (.bl e.fin_gone) rs := fldE E ho hp (E.na _ (by simp)) fun F ol pp rv h1 h2 => ⟨_, elk_fin_gone, rfl⟩
theorem r_owes_syn (E : EndF K) (ho : Ev K rs0 ta ds (.ref p) rs) (hp : Pick (endR K p e) rs rest) : Ev K rs0 (tFld K ta "owes_syn") ds (.bl e.owes_syn) rs := fldE E ho hp (E.na _ (by simp)) fun F ol pp rv h1 h2 => ⟨_, elk_owes_syn, rfl⟩
theorem r_owes_answer (E : EndF K) (ho : Ev K rs0 ta ds (.ref p) rs) (hp : Pick (endR K p e) rs rest) : Ev K rs0 (tFld K ta "owes_answer") ds (.bl e.owes_answer) rs := fldE E ho hp (E.na _ (by simp)) fun F ol pp rv h1 h2 => ⟨_, elk_owes_answer, rfl⟩
theorem r_probing (E : EndF K) (ho : Ev K rs0 ta ds (.ref p) rs) (hp : Pick (endR K p e) rs rest) : Ev K rs0 (tFld K ta "probing") ds (.bl e.probing) rs := fldE E ho hp (E.na _ (by simp)) fun F ol pp rv h1 h2 => ⟨_, elk_probing, rfl⟩
theorem r_state (E : EndF K) (ho : Ev K rs0 ta ds (.ref p) rs) (hp : Pick (endR K p e) rs rest) : Ev K rs0 (tFld K ta "state") ds (.str (stx e.state)) rs := fldE E ho hp (E.na _ (by simp)) fun F ol pp rv h1 h2 => ⟨_, elk_state, rfl⟩
theorem r_error (E : EndF K) (ho : Ev K rs0 ta ds (.ref p) rs) (hp : Pick (endR K p e) rs rest) : Ev K rs0 (tFld K ta "error") ds (.str (etx e.error)) rs := fldE E ho hp (E.na _ (by simp)) fun F ol pp rv h1 h2 => ⟨_, elk_error, rfl⟩
theorem r_out (E : EndF K) (ho : Ev K rs0 ta ds (.ref p) rs) (hp : Pick (endR K p e) rs rest) : Ev K rs0 (tFld K ta "out") ds (li e.out) rs := fldE E ho hp (E.na _ (by simp)) fun F ol pp rv h1 h2 => ⟨_, elk_out, dv_li_mk h1⟩
theorem r_reset (E : EndF K) (ho : Ev K rs0 ta ds (.ref p) rs) (hp : Pick (endR K p e) rs rest) : Ev K rs0 (tFld K ta "reset") ds (osg e.reset) rs := fldE E ho hp (E.na _ (by simp)) fun F ol pp rv h1 h2 => ⟨_, elk_reset, h2⟩
theorem w_ours {n : Int} (E : EndF K) (hv : Ev K rs tv ds (.int n) rs1) (ho : Ev K rs1 ta ds (.ref p) rs1) (hp : Put (endR K p e) (endR K p { e with ours := n }) rs1 rs2) (k : G K F0 tz D ds rs2) : G K F0 (tSeq (sFld K ta tv "ours") tz) D ds rs :=
  setE E hv ho hp rfl (E.na _ (by simp)) (fun F ol pp rv y h1 h2 hy => ⟨ol, rv, by rw [show y = _ from hy]; exact epu_ours, h1, h2⟩) k
theorem w1_ours {n : Int} (E : EndF K) (hv : Ev K rs tv ds (.int n) rs1) (ho : Ev K rs1 ta ds (.ref p) rs1) (hp : Put (endR K p e) (endR K p { e with ours := n }) rs1 rs2) (k : G K F0 tNext D ds rs2) : G K F0 (sFld K ta tv "ours") D ds rs :=
  setE1 E hv ho hp rfl (E.na _ (by simp)) (fun F ol pp rv y h1 h2 hy => ⟨ol, rv, by rw [show y = _ from hy]; exact epu_ours, h1, h2⟩) k
theorem w_theirs {n : Int} (E : EndF K) (hv : Ev K rs tv ds (.int n) rs1) (ho : Ev K rs1 ta ds (.ref p) rs1) (hp : Put (endR K p e) (endR K p { e with theirs := n }) rs1 rs2) (k : G K F0 tz D ds rs2) : G K F0 (tSeq (sFld K ta tv "theirs") tz) D ds rs :=
  setE E hv ho hp rfl (E.na _ (by simp)) (fun F ol pp rv y h1 h2 hy => ⟨ol, rv, by rw [show y = _ from hy]; exact epu_theirs, h1, h2⟩) k
theorem w1_theirs {n : Int} (E : EndF K) (hv : Ev K rs tv ds (.int n) rs1) (ho : Ev K rs1 ta ds (.ref p) rs1) (hp : Put (endR K p e) (endR K p { e with theirs := n }) rs1 rs2) (k : G K F0 tNext D ds rs2) : G K F0 (sFld K ta tv "theirs") D ds rs :=
  setE1 E hv ho hp rfl (E.na _ (by simp)) (fun F ol pp rv y h1 h2 hy => ⟨ol, rv, by rw [show y = _ from hy]; exact epu_theirs, h1, h2⟩) k
theorem w_first {n : Int} (E : EndF K) (hv : Ev K rs tv ds (.int n) rs1) (ho : Ev K rs1 ta ds (.ref p) rs1) (hp : Put (endR K p e) (endR K p { e with first := n }) rs1 rs2) (k : G K F0 tz D ds rs2) : G K F0 (tSeq (sFld K ta tv "first") tz) D ds rs :=
  setE E hv ho hp rfl (E.na _ (by simp)) (fun F ol pp rv y h1 h2 hy => ⟨ol, rv, by rw [show y = _ from hy]; exact epu_first, h1, h2⟩) k
theorem w1_first {n : Int} (E : EndF K) (hv : Ev K rs tv ds (.int n) rs1) (ho : Ev K rs1 ta ds (.ref p) rs1) (hp : Put (endR K p e) (endR K p { e with first := n }) rs1 rs2) (k : G K F0 tNext D ds rs2) : G K F0 (sFld K ta tv "first") D ds rs :=
  setE1 E hv ho hp rfl (E.na _ (by simp)) (fun F ol pp rv y h1 h2 hy => ⟨ol, rv, by rw [show y = _ from hy]; exact epu_first, h1, h2⟩) k
theorem w_una {n : Int} (E : EndF K) (hv : Ev K rs tv ds (.int n) rs1) (ho : Ev K rs1 ta ds (.ref p) rs1) (hp : Put (endR K p e) (endR K p { e with una := n }) rs1 rs2) (k : G K F0 tz D ds rs2) : G K F0 (tSeq (sFld K ta tv "una") tz) D ds rs :=
  setE E hv ho hp rfl (E.na _ (by simp)) (fun F ol pp rv y h1 h2 hy => ⟨ol, rv, by rw [show y = _ from hy]; exact epu_una, h1, h2⟩) k
theorem w1_una {n : Int} (E : EndF K) (hv : Ev K rs tv ds (.int n) rs1) (ho : Ev K rs1 ta ds (.ref p) rs1) (hp : Put (endR K p e) (endR K p { e with una := n }) rs1 rs2) (k : G K F0 tNext D ds rs2) : G K F0 (sFld K ta tv "una") D ds rs :=
  setE1 E hv ho hp rfl (E.na _ (by simp)) (fun F ol pp rv y h1 h2 hy => ⟨ol, rv, by rw [show y = _ from hy]; exact epu_una, h1, h2⟩) k
theorem w_nxt {n : Int} (E : EndF K) (hv : Ev K rs tv ds (.int n) rs1) (ho : Ev K rs1 ta ds (.ref p) rs1) (hp : Put (endR K p e) (endR K p { e with nxt := n }) rs1 rs2) (k : G K F0 tz D ds rs2) : G K F0 (tSeq (sFld K ta tv "nxt") tz) D ds rs :=
  setE E hv ho hp rfl (E.na _ (by simp)) (fun F ol pp rv y h1 h2 hy => ⟨ol, rv, by rw [show y = _ from hy]; exact epu_nxt, h1, h2⟩) k
theorem w1_nxt {n : Int} (E : EndF K) (hv : Ev K rs tv ds (.int n) rs1) (ho : Ev K rs1 ta ds (.ref p) rs1) (hp : Put (endR K p e) (endR K p { e with nxt := n }) rs1 rs2) (k : G K F0 tNext D ds rs2) : G K F0 (sFld K ta tv "nxt") D ds rs :=
  setE1 E hv ho hp rfl (E.na _ (by simp)) (fun F ol pp rv y h1 h2 hy => ⟨ol, rv, by rw [show y = _ from hy]; exact epu_nxt, h1, h2⟩) k
theorem w_rcv {n : Int} (E : EndF K) (hv : Ev K rs tv ds (.int n) rs1) (ho : Ev K rs1 ta ds (.ref p) rs1) (hp : Put (endR K p e) (endR K p { e with rcv := n }) rs1 rs2) (k : G K F0 tz D ds rs2) : G K F0 (tSeq (sFld K ta tv "rcv") tz) D ds rs :=
  setE E hv ho hp rfl (E.na _ (by simp)) (fun F ol pp rv y h1 h2 hy => ⟨ol, rv, by rw [show y = _ from hy]; exact epu_rcv, h1, h2⟩) k
theorem w1_rcv {n : Int} (E : EndF K) (hv : Ev K rs tv ds (.int n) rs1) (ho : Ev K rs1 ta ds (.ref p) rs1) (hp : Put (endR K p e) (endR K p { e with rcv := n }) rs1 rs2) (k : G K F0 tNext D ds rs2) : G K F0 (sFld K ta tv "rcv") D ds rs :=
  setE1 E hv ho hp rfl (E.na _ (by simp)) (fun F ol pp rv y h1 h2 hy => ⟨ol, rv, by rw [show y = _ from hy]; exact epu_rcv, h1, h2⟩) k
theorem w_wnd {n : Int} (E : EndF K) (hv : Ev K rs tv ds (.int n) rs1) (ho : Ev K rs1 ta ds (.ref p) rs1) (hp : Put (endR K p e) (endR K p { e with wnd := n }) rs1 rs2) (k : G K F0 tz D ds rs2) : G K F0 (tSeq (sFld K ta tv "wnd") tz) D ds rs :=
  setE E hv ho hp rfl (E.na _ (by simp)) (fun F ol pp rv y h1 h2 hy => ⟨ol, rv, by rw [show y = _ from hy]; exact epu_wnd, h1, h2⟩) k
theorem w1_wnd {n : Int} (E : EndF K) (hv : Ev K rs tv ds (.int n) rs1) (ho : Ev K rs1 ta ds (.ref p) rs1) (hp : Put (endR K p e) (endR K p { e with wnd := n }) rs1 rs2) (k : G K F0 tNext D ds rs2) : G K F0 (sFld K ta tv "wnd") D ds rs :=
  setE1 E hv ho hp rfl (E.na _ (by simp)) (fun F ol pp rv y h1 h2 hy => ⟨ol, rv, by rw [show y = _ from hy]; exact epu_wnd, h1, h2⟩) k
theorem w_told {n : Int} (E : EndF K) (hv : Ev K rs tv ds (.int n) rs1) (ho : Ev K rs1 ta ds (.ref p) rs1) (hp : Put (endR K p e) (endR K p { e with told := n }) rs1 rs2) (k : G K F0 tz D ds rs2) : G K F0 (tSeq (sFld K ta tv "told") tz) D ds rs :=
  setE E hv ho hp rfl (E.na _ (by simp)) (fun F ol pp rv y h1 h2 hy => ⟨ol, rv, by rw [show y = _ from hy]; exact epu_told, h1, h2⟩) k
theorem w1_told {n : Int} (E : EndF K) (hv : Ev K rs tv ds (.int n) rs1) (ho : Ev K rs1 ta ds (.ref p) rs1) (hp : Put (endR K p e) (endR K p { e with told := n }) rs1 rs2) (k : G K F0 tNext D ds rs2) : G K F0 (sFld K ta tv "told") D ds rs :=
  setE1 E hv ho hp rfl (E.na _ (by simp)) (fun F ol pp rv y h1 h2 hy => ⟨ol, rv, by rw [show y = _ from hy]; exact epu_told, h1, h2⟩) k
theorem w_told_by {n : Int} (E : EndF K) (hv : Ev K rs tv ds (.int n) rs1) (ho : Ev K rs1 ta ds (.ref p) rs1) (hp : Put (endR K p e) (endR K p { e with told_by := n }) rs1 rs2) (k : G K F0 tz D ds rs2) : G K F0 (tSeq (sFld K ta tv "told_by") tz) D ds rs :=
  setE E hv ho hp rfl (E.na _ (by simp)) (fun F ol pp rv y h1 h2 hy => ⟨ol, rv, by rw [show y = _ from hy]; exact epu_told_by, h1, h2⟩) k
theorem w1_told_by {n : Int} (E : EndF K) (hv : Ev K rs tv ds (.int n) rs1) (ho : Ev K rs1 ta ds (.ref p) rs1) (hp : Put (endR K p e) (endR K p { e with told_by := n }) rs1 rs2) (k : G K F0 tNext D ds rs2) : G K F0 (sFld K ta tv "told_by") D ds rs :=
  setE1 E hv ho hp rfl (E.na _ (by simp)) (fun F ol pp rv y h1 h2 hy => ⟨ol, rv, by rw [show y = _ from hy]; exact epu_told_by, h1, h2⟩) k
theorem w_most {n : Int} (E : EndF K) (hv : Ev K rs tv ds (.int n) rs1) (ho : Ev K rs1 ta ds (.ref p) rs1) (hp : Put (endR K p e) (endR K p { e with most := n }) rs1 rs2) (k : G K F0 tz D ds rs2) : G K F0 (tSeq (sFld K ta tv "most") tz) D ds rs :=
  setE E hv ho hp rfl (E.na _ (by simp)) (fun F ol pp rv y h1 h2 hy => ⟨ol, rv, by rw [show y = _ from hy]; exact epu_most, h1, h2⟩) k
theorem w1_most {n : Int} (E : EndF K) (hv : Ev K rs tv ds (.int n) rs1) (ho : Ev K rs1 ta ds (.ref p) rs1) (hp : Put (endR K p e) (endR K p { e with most := n }) rs1 rs2) (k : G K F0 tNext D ds rs2) : G K F0 (sFld K ta tv "most") D ds rs :=
  setE1 E hv ho hp rfl (E.na _ (by simp)) (fun F ol pp rv y h1 h2 hy => ⟨ol, rv, by rw [show y = _ from hy]; exact epu_most, h1, h2⟩) k
theorem w_since {n : Int} (E : EndF K) (hv : Ev K rs tv ds (.int n) rs1) (ho : Ev K rs1 ta ds (.ref p) rs1) (hp : Put (endR K p e) (endR K p { e with since := n }) rs1 rs2) (k : G K F0 tz D ds rs2) : G K F0 (tSeq (sFld K ta tv "since") tz) D ds rs :=
  setE E hv ho hp rfl (E.na _ (by simp)) (fun F ol pp rv y h1 h2 hy => ⟨ol, rv, by rw [show y = _ from hy]; exact epu_since, h1, h2⟩) k
theorem w1_since {n : Int} (E : EndF K) (hv : Ev K rs tv ds (.int n) rs1) (ho : Ev K rs1 ta ds (.ref p) rs1) (hp : Put (endR K p e) (endR K p { e with since := n }) rs1 rs2) (k : G K F0 tNext D ds rs2) : G K F0 (sFld K ta tv "since") D ds rs :=
  setE1 E hv ho hp rfl (E.na _ (by simp)) (fun F ol pp rv y h1 h2 hy => ⟨ol, rv, by rw [show y = _ from hy]; exact epu_since, h1, h2⟩) k
theorem w_wait {n : Int} (E : EndF K) (hv : Ev K rs tv ds (.int n) rs1) (ho : Ev K rs1 ta ds (.ref p) rs1) (hp : Put (endR K p e) (endR K p { e with wait := n }) rs1 rs2) (k : G K F0 tz D ds rs2) : G K F0 (tSeq (sFld K ta tv "wait") tz) D ds rs :=
  setE E hv ho hp rfl (E.na _ (by simp)) (fun F ol pp rv y h1 h2 hy => ⟨ol, rv, by rw [show y = _ from hy]; exact epu_wait, h1, h2⟩) k
theorem w1_wait {n : Int} (E : EndF K) (hv : Ev K rs tv ds (.int n) rs1) (ho : Ev K rs1 ta ds (.ref p) rs1) (hp : Put (endR K p e) (endR K p { e with wait := n }) rs1 rs2) (k : G K F0 tNext D ds rs2) : G K F0 (sFld K ta tv "wait") D ds rs :=
  setE1 E hv ho hp rfl (E.na _ (by simp)) (fun F ol pp rv y h1 h2 hy => ⟨ol, rv, by rw [show y = _ from hy]; exact epu_wait, h1, h2⟩) k
theorem w_tries {n : Int} (E : EndF K) (hv : Ev K rs tv ds (.int n) rs1) (ho : Ev K rs1 ta ds (.ref p) rs1) (hp : Put (endR K p e) (endR K p { e with tries := n }) rs1 rs2) (k : G K F0 tz D ds rs2) : G K F0 (tSeq (sFld K ta tv "tries") tz) D ds rs :=
  setE E hv ho hp rfl (E.na _ (by simp)) (fun F ol pp rv y h1 h2 hy => ⟨ol, rv, by rw [show y = _ from hy]; exact epu_tries, h1, h2⟩) k
theorem w1_tries {n : Int} (E : EndF K) (hv : Ev K rs tv ds (.int n) rs1) (ho : Ev K rs1 ta ds (.ref p) rs1) (hp : Put (endR K p e) (endR K p { e with tries := n }) rs1 rs2) (k : G K F0 tNext D ds rs2) : G K F0 (sFld K ta tv "tries") D ds rs :=
  setE1 E hv ho hp rfl (E.na _ (by simp)) (fun F ol pp rv y h1 h2 hy => ⟨ol, rv, by rw [show y = _ from hy]; exact epu_tries, h1, h2⟩) k
theorem w_synced {n : Bool} (E : EndF K) (hv : Ev K rs tv ds (.bl n) rs1) (ho : Ev K rs1 ta ds (.ref p) rs1) (hp : Put (endR K p e) (endR K p { e with synced := n }) rs1 rs2) (k : G K F0 tz D ds rs2) : G K F0 (tSeq (sFld K ta tv "synced") tz) D ds rs :=
  setE E hv ho hp rfl (E.na _ (by simp)) (fun F ol pp rv y h1 h2 hy => ⟨ol, rv, by rw [show y = _ from hy]; exact epu_synced, h1, h2⟩) k
theorem w1_synced {n : Bool} (E : EndF K) (hv : Ev K rs tv ds (.bl n) rs1) (ho : Ev K rs1 ta ds (.ref p) rs1) (hp : Put (endR K p e) (endR K p { e with synced := n }) rs1 rs2) (k : G K F0 tNext D ds rs2) : G K F0 (sFld K ta tv "synced") D ds rs :=
  setE1 E hv ho hp rfl (E.na _ (by simp)) (fun F ol pp rv y h1 h2 hy => ⟨ol, rv, by rw [show y = _ from hy]; exact epu_synced, h1, h2⟩) k
theorem w_fin {n : Bool} (E : EndF K) (hv : Ev K rs tv ds (.bl n) rs1) (ho : Ev K rs1 ta ds (.ref p) rs1) (hp : Put (endR K p e) (endR K p { e with fin := n }) rs1 rs2) (k : G K F0 tz D ds rs2) : G K F0 (tSeq (sFld K ta tv "fin") tz) D ds rs :=
  setE E hv ho hp rfl (E.na _ (by simp)) (fun F ol pp rv y h1 h2 hy => ⟨ol, rv, by rw [show y = _ from hy]; exact epu_fin, h1, h2⟩) k
theorem w1_fin {n : Bool} (E : EndF K) (hv : Ev K rs tv ds (.bl n) rs1) (ho : Ev K rs1 ta ds (.ref p) rs1) (hp : Put (endR K p e) (endR K p { e with fin := n }) rs1 rs2) (k : G K F0 tNext D ds rs2) : G K F0 (sFld K ta tv "fin") D ds rs :=
  setE1 E hv ho hp rfl (E.na _ (by simp)) (fun F ol pp rv y h1 h2 hy => ⟨ol, rv, by rw [show y = _ from hy]; exact epu_fin, h1, h2⟩) k
theorem w_fin_gone {n : Bool} (E : EndF K) (hv : Ev K rs tv ds (.bl n) rs1) (ho : Ev K rs1 ta ds (.ref p) rs1) (hp : Put (endR K p e) (endR K p { e with fin_gone := n }) rs1 rs2) (k : G K F0 tz D ds rs2) : G K F0 (tSeq (sFld K ta tv "fin_gone") tz) D ds rs :=
  setE E hv ho hp rfl (E.na _ (by simp)) (fun F ol pp rv y h1 h2 hy => ⟨ol, rv, by rw [show y = _ from hy]; exact epu_fin_gone, h1, h2⟩) k
theorem w1_fin_gone {n : Bool} (E : EndF K) (hv : Ev K rs tv ds (.bl n) rs1) (ho : Ev K rs1 ta ds (.ref p) rs1) (hp : Put (endR K p e) (endR K p { e with fin_gone := n }) rs1 rs2) (k : G K F0 tNext D ds rs2) : G K F0 (sFld K ta tv "fin_gone") D ds rs :=
  setE1 E hv ho hp rfl (E.na _ (by simp)) (fun F ol pp rv y h1 h2 hy => ⟨ol, rv, by rw [show y = _ from hy]; exact epu_fin_gone, h1, h2⟩) k
theorem w_owes_syn {n : Bool} (E : EndF K) (hv : Ev K rs tv ds (.bl n) rs1) (ho : Ev K rs1 ta ds (.ref p) rs1) (hp : Put (endR K p e) (endR K p { e with owes_syn := n }) rs1 rs2) (k : G K F0 tz D ds rs2) : G K F0 (tSeq (sFld K ta tv "owes_syn") tz) D ds rs :=
  setE E hv ho hp rfl (E.na _ (by simp)) (fun F ol pp rv y h1 h2 hy => ⟨ol, rv, by rw [show y = _ from hy]; exact epu_owes_syn, h1, h2⟩) k
theorem w1_owes_syn {n : Bool} (E : EndF K) (hv : Ev K rs tv ds (.bl n) rs1) (ho : Ev K rs1 ta ds (.ref p) rs1) (hp : Put (endR K p e) (endR K p { e with owes_syn := n }) rs1 rs2) (k : G K F0 tNext D ds rs2) : G K F0 (sFld K ta tv "owes_syn") D ds rs :=
  setE1 E hv ho hp rfl (E.na _ (by simp)) (fun F ol pp rv y h1 h2 hy => ⟨ol, rv, by rw [show y = _ from hy]; exact epu_owes_syn, h1, h2⟩) k
theorem w_owes_answer {n : Bool} (E : EndF K) (hv : Ev K rs tv ds (.bl n) rs1) (ho : Ev K rs1 ta ds (.ref p) rs1) (hp : Put (endR K p e) (endR K p { e with owes_answer := n }) rs1 rs2) (k : G K F0 tz D ds rs2) : G K F0 (tSeq (sFld K ta tv "owes_answer") tz) D ds rs :=
  setE E hv ho hp rfl (E.na _ (by simp)) (fun F ol pp rv y h1 h2 hy => ⟨ol, rv, by rw [show y = _ from hy]; exact epu_owes_answer, h1, h2⟩) k
theorem w1_owes_answer {n : Bool} (E : EndF K) (hv : Ev K rs tv ds (.bl n) rs1) (ho : Ev K rs1 ta ds (.ref p) rs1) (hp : Put (endR K p e) (endR K p { e with owes_answer := n }) rs1 rs2) (k : G K F0 tNext D ds rs2) : G K F0 (sFld K ta tv "owes_answer") D ds rs :=
  setE1 E hv ho hp rfl (E.na _ (by simp)) (fun F ol pp rv y h1 h2 hy => ⟨ol, rv, by rw [show y = _ from hy]; exact epu_owes_answer, h1, h2⟩) k
theorem w_probing {n : Bool} (E : EndF K) (hv : Ev K rs tv ds (.bl n) rs1) (ho : Ev K rs1 ta ds (.ref p) rs1) (hp : Put (endR K p e) (endR K p { e with probing := n }) rs1 rs2) (k : G K F0 tz D ds rs2) : G K F0 (tSeq (sFld K ta tv "probing") tz) D ds rs :=
  setE E hv ho hp rfl (E.na _ (by simp)) (fun F ol pp rv y h1 h2 hy => ⟨ol, rv, by rw [show y = _ from hy]; exact epu_probing, h1, h2⟩) k
theorem w1_probing {n : Bool} (E : EndF K) (hv : Ev K rs tv ds (.bl n) rs1) (ho : Ev K rs1 ta ds (.ref p) rs1) (hp : Put (endR K p e) (endR K p { e with probing := n }) rs1 rs2) (k : G K F0 tNext D ds rs2) : G K F0 (sFld K ta tv "probing") D ds rs :=
  setE1 E hv ho hp rfl (E.na _ (by simp)) (fun F ol pp rv y h1 h2 hy => ⟨ol, rv, by rw [show y = _ from hy]; exact epu_probing, h1, h2⟩) k
theorem w_state {n : M.St} (E : EndF K) (hv : Ev K rs tv ds (.str (stx n)) rs1) (ho : Ev K rs1 ta ds (.ref p) rs1) (hp : Put (endR K p e) (endR K p { e with state := n }) rs1 rs2) (k : G K F0 tz D ds rs2) : G K F0 (tSeq (sFld K ta tv "state") tz) D ds rs :=
  setE E hv ho hp rfl (E.na _ (by simp)) (fun F ol pp rv y h1 h2 hy => ⟨ol, rv, by rw [show y = _ from hy]; exact epu_state, h1, h2⟩) k
theorem w1_state {n : M.St} (E : EndF K) (hv : Ev K rs tv ds (.str (stx n)) rs1) (ho : Ev K rs1 ta ds (.ref p) rs1) (hp : Put (endR K p e) (endR K p { e with state := n }) rs1 rs2) (k : G K F0 tNext D ds rs2) : G K F0 (sFld K ta tv "state") D ds rs :=
  setE1 E hv ho hp rfl (E.na _ (by simp)) (fun F ol pp rv y h1 h2 hy => ⟨ol, rv, by rw [show y = _ from hy]; exact epu_state, h1, h2⟩) k
theorem w_error {n : M.Er} (E : EndF K) (hv : Ev K rs tv ds (.str (etx n)) rs1) (ho : Ev K rs1 ta ds (.ref p) rs1) (hp : Put (endR K p e) (endR K p { e with error := n }) rs1 rs2) (k : G K F0 tz D ds rs2) : G K F0 (tSeq (sFld K ta tv "error") tz) D ds rs :=
  setE E hv ho hp rfl (E.na _ (by simp)) (fun F ol pp rv y h1 h2 hy => ⟨ol, rv, by rw [show y = _ from hy]; exact epu_error, h1, h2⟩) k
theorem w1_error {n : M.Er} (E : EndF K) (hv : Ev K rs tv ds (.str (etx n)) rs1) (ho : Ev K rs1 ta ds (.ref p) rs1) (hp : Put (endR K p e) (endR K p { e with error := n }) rs1 rs2) (k : G K F0 tNext D ds rs2) : G K F0 (sFld K ta tv "error") D ds rs :=
  setE1 E hv ho hp rfl (E.na _ (by simp)) (fun F ol pp rv y h1 h2 hy => ⟨ol, rv, by rw [show y = _ from hy]; exact epu_error, h1, h2⟩) k
theorem w_out {n : List Int} (E : EndF K) (hv : Ev K rs tv ds (li n) rs1) (ho : Ev K rs1 ta ds (.ref p) rs1) (hp : Put (endR K p e) (endR K p { e with out := n }) rs1 rs2) (k : G K F0 tz D ds rs2) : G K F0 (tSeq (sFld K ta tv "out") tz) D ds rs :=
  setE E hv ho hp rfl (E.na _ (by simp)) (fun F ol pp rv y h1 h2 hy => by
    obtain ⟨a, rfl, h3⟩ := dv_li hy
    exact ⟨a, rv, epu_out, h3, h2⟩) k
theorem w1_out {n : List Int} (E : EndF K) (hv : Ev K rs tv ds (li n) rs1) (ho : Ev K rs1 ta ds (.ref p) rs1) (hp : Put (endR K p e) (endR K p { e with out := n }) rs1 rs2) (k : G K F0 tNext D ds rs2) : G K F0 (sFld K ta tv "out") D ds rs :=
  setE1 E hv ho hp rfl (E.na _ (by simp)) (fun F ol pp rv y h1 h2 hy => by
    obtain ⟨a, rfl, h3⟩ := dv_li hy
    exact ⟨a, rv, epu_out, h3, h2⟩) k
theorem w_reset {n : Option M.Seg} (E : EndF K) (hv : Ev K rs tv ds (osg n) rs1) (ho : Ev K rs1 ta ds (.ref p) rs1) (hp : Put (endR K p e) (endR K p { e with reset := n }) rs1 rs2) (k : G K F0 tz D ds rs2) : G K F0 (tSeq (sFld K ta tv "reset") tz) D ds rs :=
  setE E hv ho hp rfl (E.na _ (by simp)) (fun F ol pp rv y h1 h2 hy => ⟨ol, y, epu_reset, h1, hy⟩) k
theorem w1_reset {n : Option M.Seg} (E : EndF K) (hv : Ev K rs tv ds (osg n) rs1) (ho : Ev K rs1 ta ds (.ref p) rs1) (hp : Put (endR K p e) (endR K p { e with reset := n }) rs1 rs2) (k : G K F0 tNext D ds rs2) : G K F0 (sFld K ta tv "reset") D ds rs :=
  setE1 E hv ho hp rfl (E.na _ (by simp)) (fun F ol pp rv y h1 h2 hy => ⟨ol, y, epu_reset, h1, hy⟩) k
end
end Lg

namespace M
def getK (l : List (Int × Int)) (k : Int) : Option Int := (l.find? fun x => decide (x.1 = k)).map (·.2)
def addK (l : List (Int × Int)) (k v : Int) : List (Int × Int) := if (getK l k).isSome = true then l else l ++ [(k, v)]
def delK (l : List (Int × Int)) (k : Int) : List (Int × Int) := l.filter fun x => decide (x.1 ≠ k)
theorem delK_lt {l : List (Int × Int)} {k : Int} (h : (getK l k).isSome = true) : (delK l k).length < l.length := by
  unfold getK at h
  unfold delK
  rw [Option.isSome_map] at h
  obtain ⟨x, hx⟩ := Option.isSome_iff_exists.mp h
  refine List.length_filter_lt_length_iff_exists.mpr ⟨x, List.mem_of_find?_eq_some hx, ?_⟩
  have := List.find?_some hx
  simpa using this
/-- the bytes that lie in the window, the first n of them -/
def keepN (q : PileS) (far : Int) (data : List Int) : Nat → PileS
  | 0 => q
  | n + 1 => let q' := keepN q far data n; if (decide (0 ≤ far + (n : Int)) && decide (far + (n : Int) < room q)) = true then { q' with early := addK q'.early (q'.come + far + (n : Int)) (data.getD n 0) } else q'
def keep (q : PileS) (far : Int) (data : List Int) : PileS := keepN q far data data.length
def keep_end (q : PileS) (far : Int) : PileS := if ((decide (0 ≤ far) && decide (far < room q)) && q.last.isNone) = true then { q with last := some (q.come + far) } else q
def settle1 (q : PileS) (m : Int) : PileS × Int :=
  if h : (getK q.early q.come).isSome = true then
    if decide (some q.come = q.last) = true then (q, m) else settle1 { q with held := q.held ++ [(getK q.early q.come).getD 0], early := delK q.early q.come, come := q.come + 1 } (m + 1)
  else (q, m)
termination_by q.early.length
decreasing_by exact delK_lt h
def settle (q : PileS) : PileS × Int := settle1 q 0
def is_over (q : PileS) : Bool := decide (some q.come = q.last)
def taken (q : PileS) (many : Int) : PileS × List Int := ({ q with held := sl q.held (some many) none }, sl q.held none (some many))
end M
namespace Lg
open PySem PySem.Spec PyProof.Rows L2 Wr
def oi : Option Int → Da
  | none => .non
  | some n => .int n
section
variable {K : PySem.W.Frag} {F0 F H : Hp} {D : Ends} {ds : List (Option Da)} {rs rs0 rs1 rs2 rs3 rest : List Rs} {ta tb tv tc te : TE} {tA : TA} {tz t : TS} {d : Da} {l : List Da} {p pp : Addr} {q q' : M.PileS} {f : Str} {n i : Int} {o2 : Option Int}
/-! ### a value with what it makes -/
def EvX (K : PySem.W.Frag) (rs : List Rs) (t : TE) (ds : List (Option Da)) (f : Addr → Da) (g : Addr → List Rs) : Prop :=
  ∀ σ F H, Vs K F σ ds → Ow F rs H → ∀ Q : VK, (∀ p v F' H', Sub F F' → Dv K F' (f p) v → Ow F' (g p) H' → Q v H') → t σ H Q
theorem evN_X {l : List Da} (h : EvN K rs te ds l rs1) : EvX K rs te ds (fun p => .ref p) (fun p => ol K p l :: rs1) := fun σ F H vs o Q k => h σ F H vs o Q fun p F1 H1 s1 o1 => k p _ F1 H1 s1 rfl o1
theorem ev_X (h : Ev K rs te ds d rs1) : EvX K rs te ds (fun _ => d) (fun _ => rs1) := fun σ F H vs o Q k => h σ F H vs o Q fun v F1 H1 s1 dv o1 => k 0 v F1 H1 s1 dv o1
theorem g_asgV {ii : Nat} {f : Addr → Da} {g : Addr → List Rs} (h : EvX K rs te ds f g) (k : ∀ p, G K F0 tz D (ds.set ii (some (f p))) (g p)) : G K F0 (tSeq (tAsg te (gName ii)) tz) D ds rs := fun σ F H s vs o =>
  h σ F H vs o _ fun p v F1 H1 s1 dv o1 => k p _ F1 H1 (s.trans s1) ((vs.mono s1).set dv) o1
theorem g_retX {Q : VK} {f : Addr → Da} {g : Addr → List Rs} (h : EvX K rs te ds f g) (hD : D.rt = Q) (k : ∀ p v F H, Sub F0 F → Dv K F (f p) v → Ow F (g p) H → Q v H) : G K F0 (tRet te) D ds rs := fun σ F H s vs o => by
  refine h σ F H vs o _ fun p v F1 H1 s1 dv o1 => ?_
  rw [hD]
  exact k p v F1 H1 (s.trans s1) dv o1
theorem callX2 {R : List Da → List Rs → (Addr → Da) → (Addr → List Rs) → Prop} {X : XK} {f : Addr → Da} {g : Addr → List Rs} (h : EvA K rs tA ds l rs1) (hR : R l rs1 f g) : EvX K rs (tCall (SpE K R) [] X tA) ds f g := fun σ F H vs o Q k =>
  h σ F H vs o _ fun ws F1 H1 s1 dw o1 => ⟨F1, l, rs1, f, g, by rw [List.append_nil]; exact dw, o1, hR, fun p v F2 H2 s2 => k p v F2 H2 (s1.trans s2)⟩
/-! ### records in the making -/
def AllF (K : PySem.W.Frag) (F : Hp) : List (Str × Da) → List (Str × V) → Prop
  | [], ws => ws = []
  | (f, d) :: l, ws => ∃ v r, ws = (f, v) :: r ∧ Dv K F d v ∧ AllF K F l r
theorem AllF.mono (s : Sub F H) : ∀ {l : List (Str × Da)} {ws : List (Str × V)}, AllF K F l ws → AllF K H l ws
  | [], _, h => h
  | (f, d) :: l, _, ⟨v, r, e, h, k⟩ => ⟨v, r, e, Dv.mono s _ _ h, AllF.mono s k⟩
def putD (f : Str) (d : Da) : List (Str × Da) → List (Str × Da)
  | [] => [(f, d)]
  | (g, x) :: r => if g = f then (g, d) :: r else (g, x) :: putD f d r
theorem AllF.put {f : Str} {d : Da} {v : V} (hv : Dv K F d v) : ∀ {l : List (Str × Da)} {ws : List (Str × V)}, AllF K F l ws → AllF K F (putD f d l) (putF f v ws)
  | [], _, h => by rw [show _ = [] from h]; exact ⟨v, [], rfl, hv, rfl⟩
  | (g, x) :: r, _, ⟨y, r2, e, h, k⟩ => by
    rw [e]
    show AllF K F (if g = f then (g, d) :: r else (g, x) :: putD f d r) (if g = f then (g, v) :: r2 else (g, y) :: putF f v r2)
    by_cases z : g = f
    · rw [if_pos z, if_pos z]; exact ⟨v, r2, rfl, hv, k⟩
    · rw [if_neg z, if_neg z]; exact ⟨y, _, rfl, h, AllF.put hv k⟩
theorem AllF.len : ∀ {l : List (Str × Da)} {ws : List (Str × V)}, AllF K F l ws → ws.length = l.length
  | [], _, h => by rw [show _ = [] from h]; rfl
  | (f, d) :: l, _, ⟨v, r, e, h, k⟩ => by rw [e, List.length_cons, List.length_cons, AllF.len k]
def rawR (K : PySem.W.Frag) (p C : Addr) (fs : List (Str × Da)) : Rs := ⟨fun F => exk fun (dx : Addr) => exk fun (ws : List (Str × V)) => sep [pt p (.ins C dx ws), pur (AllF K F fs ws)], fun F F' H s h => by
  obtain ⟨dx, h⟩ := exk_ok.mp h
  obtain ⟨ws, h⟩ := exk_ok.mp h
  have o := sep_ok.mp h
  have h1 := pur_ok.mp (own_head (own_tail o))
  exact exk_ok.mpr ⟨dx, exk_ok.mpr ⟨ws, sep_ok.mpr (own_swap (own_pur.mpr ⟨AllF.mono s h1, own_tail (own_swap o)⟩))⟩⟩⟩
theorem raw_out {C : Addr} {fs : List (Str × Da)} (o : Ow F (rawR K p C fs :: rs) H) : ∃ dx ws, AllF K F fs ws ∧ Own (pt p (.ins C dx ws) :: fz F :: rs.map fun r => r.ck F) H := by
  obtain ⟨dx, o2⟩ := own_ex.mp (own_swap o)
  obtain ⟨ws, o3⟩ := own_ex.mp o2
  have o4 := own_sep.mp o3
  obtain ⟨h1, o5⟩ := own_pur.mp (own_swap o4)
  exact ⟨dx, ws, h1, o5⟩
theorem raw_mk {C dx : Addr} {fs : List (Str × Da)} {ws : List (Str × V)} (h : AllF K F fs ws) (o : Own (pt p (.ins C dx ws) :: fz F :: rs.map fun r => r.ck F) H) : Ow F (rawR K p C fs :: rs) H :=
  own_swap (own_ex.mpr ⟨dx, own_ex.mpr ⟨ws, own_sep.mpr (own_swap (own_pur.mpr ⟨h, o⟩))⟩⟩)
/-- self.f = v, in the making -/
theorem g_raw {C : Addr} {fs : List (Str × Da)} {fd : Addr → Da} {g : Addr → List Rs} (c : Cls K C) (na : NoAttr K C f) (hl : fs.length < 1000) (hv : EvX K (rawR K p C fs :: rs) tv ds fd (fun a => rawR K p C fs :: g a)) (ho : ds[0]? = some (some (.ref p)))
    (k : ∀ a, G K F0 tz D ds (rawR K p C (putD f (fd a) fs) :: g a)) : G K F0 (tSeq (sFld K (tVar 0) tv f) tz) D ds (rawR K p C fs :: rs) := fun σ F H s vs o =>
  hv σ F H vs o _ fun a v F1 H1 s1 dv o1 => by
    refine ⟨_, var_ref vs ho, ?_⟩
    obtain ⟨dx, ws, h1, o2⟩ := raw_out o1
    refine ⟨p, C, dx, ws, rfl, pt_ok.mp (own_head o2), c, na, by rw [AllF.len h1]; exact hl, ?_⟩
    exact k a σ F1 _ (s.trans s1) (vs.mono s1) (raw_mk (AllF.put dv h1) (own_upd o2))
theorem g_raw1 {C : Addr} {fs : List (Str × Da)} {fd : Addr → Da} {g : Addr → List Rs} (c : Cls K C) (na : NoAttr K C f) (hl : fs.length < 1000) (hv : EvX K (rawR K p C fs :: rs) tv ds fd (fun a => rawR K p C fs :: g a)) (ho : ds[0]? = some (some (.ref p)))
    (k : ∀ a, G K F0 tNext D ds (rawR K p C (putD f (fd a) fs) :: g a)) : G K F0 (sFld K (tVar 0) tv f) D ds (rawR K p C fs :: rs) := g_raw (tz := tNext) c na hl hv ho k
/-- C(..) -/
theorem mkX {C : Addr} {R : List Da → List Rs → Da → List Rs → Prop} {X : XK} {g : Addr → List Rs} (h : EvA K rs tA ds l rs1) (hR : ∀ x, R (.ref x :: l) (rawR K x C [] :: rs1) .non (g x)) : EvX K rs (tMake C (SpG K R) [] X tA) ds (fun p => .ref p) g := fun σ F H vs o Q k =>
  h σ F H vs o _ fun ws F1 H1 s1 dw o1 => fun x dx hx hdx hne => by
    refine ⟨F1, .ref x :: l, rawR K x C [] :: rs1, .non, g x, by rw [List.append_nil]; exact ⟨_, _, rfl, rfl, dw⟩, ?_, hR x, fun v F2 H2 s2 dv o2 => ⟨dv, k x _ F2 H2 (s1.trans s2) rfl o2⟩⟩
    have o3 := own_new (u := .own x) (show Own (fz F1 :: rs1.map fun r => r.ck F1) H1 from o1) hdx
    have hx2 : (upd H1 dx (.own x)) x = none := by rw [upd_ne (Ne.symm hne)]; exact hx
    have o4 := own_new (u := .ins C dx []) o3 hx2
    exact raw_mk (ws := []) (dx := dx) rfl (own_tail (own_swap o4))
/-! ### a dict of bytes, owned -/
def dk (K : PySem.W.Frag) (p : Addr) (kv : List (Int × Int)) : Rs := ⟨fun _ => pt p (.dK (kvE kv)), fun _ _ _ _ h => h⟩
theorem newD : EvX K rs tDNewK ds (fun p => .ref p) (fun p => dk K p [] :: rs) := fun σ F H vs o Q k => fun p hp => k p _ F _ (Sub.refl F) rfl (own_swap (own_new o hp))
theorem newL : EvN K rs (tLst tNil) ds [] rs := listN nil_ (by decide)
/-! ### the fields of a pile -/
theorem pr_come (E : EndF K) (ho : Ev K rs0 ta ds (.ref pp) (pileR K pp q :: rs)) : Ev K rs0 (tFld K ta "come") ds (.int q.come) (pileR K pp q :: rs) := fun σ F H vs o Q k => ho σ F H vs o _ fun x F1 H1 s1 dx o1 => by
  obtain ⟨dx2, hl, el, o5⟩ := pile_out o1
  exact ⟨pp, cP K, dx2, _, .int q.come, dx, pt_ok.mp (own_head o5), E.cp, E.np _ (by simp), by kernel_rfl, k _ F1 H1 s1 rfl o1⟩
theorem dv_last {q : M.PileS} : Dv K F (oi q.last) (match q.last with | none => .non | some n => .int n) := by cases q.last <;> rfl
theorem pr_last (E : EndF K) (ho : Ev K rs0 ta ds (.ref pp) (pileR K pp q :: rs)) : Ev K rs0 (tFld K ta "last") ds (oi q.last) (pileR K pp q :: rs) := fun σ F H vs o Q k => ho σ F H vs o _ fun x F1 H1 s1 dx o1 => by
  obtain ⟨dx2, hl, el, o5⟩ := pile_out o1
  exact ⟨pp, cP K, dx2, _, _, dx, pt_ok.mp (own_head o5), E.cp, E.np _ (by simp), by kernel_rfl, k _ F1 H1 s1 dv_last o1⟩
theorem pr_lenHeld (E : EndF K) (ho : Ev K rs0 ta ds (.ref pp) (pileR K pp q :: rs)) : Ev K rs0 (tCB (rLn K) (tCons (tFld K ta "held") tNil)) ds (.int (q.held.length : Int)) (pileR K pp q :: rs) := fun σ F H vs o Q k => ho σ F H vs o _ fun x F1 H1 s1 dx o1 => by
  obtain ⟨dx2, hl, el, o5⟩ := pile_out o1
  refine ⟨pp, cP K, dx2, _, .ref hl, dx, pt_ok.mp (own_head o5), E.cp, E.np _ (by simp), by kernel_rfl, ?_⟩
  refine ⟨hl, _, rfl, .inl (.inl (.inl (pt_ok.mp (own_head (own_tail o5))))), ?_⟩
  rw [List.length_map]
  exact k _ F1 H1 s1 rfl o1
theorem pw_come (E : EndF K) (hv : Ev K (pileR K pp q :: rs) tv ds (.int n) (pileR K pp q :: rs1)) (ho : Ev K (pileR K pp q :: rs1) ta ds (.ref pp) (pileR K pp q :: rs1)) (k : G K F0 tz D ds (pileR K pp { q with come := n } :: rs1)) : G K F0 (tSeq (sFld K ta tv "come") tz) D ds (pileR K pp q :: rs) := fun σ F H s vs o =>
  hv σ F H vs o _ fun y F1 H1 s1 dy o1 => ho σ F1 H1 (vs.mono s1) o1 _ fun x F2 H2 s2 dx o2 => by
    obtain ⟨dx2, hl, el, o5⟩ := pile_out o2
    refine ⟨pp, cP K, dx2, _, dx, pt_ok.mp (own_head o5), E.cp, E.np _ (by simp), by show 4 < 1000; decide, ?_⟩
    rw [show y = _ from dy, show putF ("come" : Str) (.int n) (pflds q hl el) = pflds { q with come := n } hl el by kernel_rfl]
    exact k σ F2 _ (s.trans (s1.trans s2)) (vs.mono (s1.trans s2)) (pile_mk (own_upd o5))
theorem pw_last (E : EndF K) (hv : Ev K (pileR K pp q :: rs) tv ds (.int n) (pileR K pp q :: rs1)) (ho : Ev K (pileR K pp q :: rs1) ta ds (.ref pp) (pileR K pp q :: rs1)) (k : G K F0 tz D ds (pileR K pp { q with last := some n } :: rs1)) : G K F0 (tSeq (sFld K ta tv "last") tz) D ds (pileR K pp q :: rs) := fun σ F H s vs o =>
  hv σ F H vs o _ fun y F1 H1 s1 dy o1 => ho σ F1 H1 (vs.mono s1) o1 _ fun x F2 H2 s2 dx o2 => by
    obtain ⟨dx2, hl, el, o5⟩ := pile_out o2
    refine ⟨pp, cP K, dx2, _, dx, pt_ok.mp (own_head o5), E.cp, E.np _ (by simp), by show 4 < 1000; decide, ?_⟩
    rw [show y = _ from dy, show putF ("last" : Str) (.int n) (pflds q hl el) = pflds { q with last := some n } hl el by kernel_rfl]
    exact k σ F2 _ (s.trans (s1.trans s2)) (vs.mono (s1.trans s2)) (pile_mk (own_upd o5))
theorem pw_last1 (E : EndF K) (hv : Ev K (pileR K pp q :: rs) tv ds (.int n) (pileR K pp q :: rs1)) (ho : Ev K (pileR K pp q :: rs1) ta ds (.ref pp) (pileR K pp q :: rs1)) (k : G K F0 tNext D ds (pileR K pp { q with last := some n } :: rs1)) : G K F0 (sFld K ta tv "last") D ds (pileR K pp q :: rs) := pw_last (tz := tNext) E hv ho k
theorem cutV_int {xs : List Int} {lo hi : Option Int} : cutV (xs.map V.int) lo hi = (M.sl xs lo hi).map V.int := by
  unfold cutV M.sl
  rw [List.length_map, List.map_take, List.map_drop]
def ckR (c : Ck) : Rs := ⟨fun _ => c, fun _ _ _ _ h => h⟩
theorem pile_open (o : Ow F (pileR K pp q :: rs) H) : ∃ dx hl el, Ow F (ckR (pt pp (.ins (cP K) dx (pflds q hl el))) :: ckR (pt hl (.lst (q.held.map V.int))) :: ckR (pt el (.dK (kvE q.early))) :: rs) H := by
  obtain ⟨dx, hl, el, o2⟩ := pile_out o
  refine ⟨dx, hl, el, ?_⟩
  have o3 := own_tl (fun _ o => own_tl (fun _ o => own_swap o) o) o2
  have o4 := own_tl (fun _ o => own_swap o) o3
  exact own_swap o4
theorem pile_close {dx hl el : Addr} (o : Ow F (ckR (pt pp (.ins (cP K) dx (pflds q hl el))) :: ckR (pt hl (.lst (q.held.map V.int))) :: ckR (pt el (.dK (kvE q.early))) :: rs) H) : Ow F (pileR K pp q :: rs) H := by
  refine pile_mk (dx := dx) (hl := hl) (el := el) ?_
  have o4 := own_swap (show Own (fz F :: pt pp (.ins (cP K) dx (pflds q hl el)) :: pt hl (.lst (q.held.map V.int)) :: pt el (.dK (kvE q.early)) :: rs.map fun r => r.ck F) H from o)
  exact own_tl (fun _ o => own_tl (fun _ o => own_swap o) (own_swap o)) o4
/-- the first thing is stored anew -/
theorem ow_store {a : Addr} {u v : HO} (o : Ow F (ckR (pt a u) :: rs) H) : Ow F (ckR (pt a v) :: rs) (upd H a v) := own_swap (own_upd (own_swap (show Own (fz F :: pt a u :: rs.map fun r => r.ck F) H from o)))
theorem ow_at {a : Addr} {u : HO} (o : Ow F (ckR (pt a u) :: rs) H) : H a = some u := pt_ok.mp (own_head (own_swap (show Own (fz F :: pt a u :: rs.map fun r => r.ck F) H from o)))
theorem ow_tail {r : Rs} (o : Ow F (r :: rs) H) : Ow F rs H := own_tl (fun _ o => own_tail o) o
theorem ow_in {r : Rs} (h : ∀ F H, Ow F rs H → Ow F rs1 H) (o : Ow F (r :: rs) H) : Ow F (r :: rs1) H := by
  have o2 := own_swap (show Own (fz F :: r.ck F :: rs.map fun r => r.ck F) H from o)
  exact own_swap (own_tl (fun H' o => h F H' o) o2)
/-- self.held[lo:hi] -/
theorem pr_slHeld {tl th : TO} {lo hi : Option Int} (E : EndF K) (ho : Ev K rs0 ta ds (.ref pp) (pileR K pp q :: rs)) (h1 : ∀ rs', EvO K rs' tl ds lo rs') (h2 : ∀ rs', EvO K rs' th ds hi rs') :
    EvN K rs0 (tSl (rSlL K) (tFld K ta "held") tl th) ds ((M.sl q.held lo hi).map Da.int) (pileR K pp q :: rs) := fun σ F H vs o Q k => ho σ F H vs o _ fun x F1 H1 s1 dx o1 => by
  obtain ⟨dx2, hl, el, o5⟩ := pile_open o1
  refine ⟨pp, cP K, dx2, _, .ref hl, dx, ow_at o5, E.cp, E.np _ (by simp), by kernel_rfl, ?_⟩
  refine h1 _ σ F1 H1 (vs.mono s1) o5 _ fun F2 H2 s2 o6 => h2 _ σ F2 H2 (vs.mono (s1.trans s2)) o6 _ fun F3 H3 s3 o7 => ?_
  refine ⟨hl, _, rfl, .inl (.inl (ow_at (ow_tail o7))), fun a ha => ?_⟩
  refine k a F3 _ ((s1.trans s2).trans s3) (ow_in (rs := ckR (pt pp (.ins (cP K) dx2 (pflds q hl el))) :: ckR (pt hl (.lst (q.held.map V.int))) :: ckR (pt el (.dK (kvE q.early))) :: rs) (fun _ _ o => pile_close o) ?_)
  exact ol_mk (own_new (show Own (fz F3 :: _) H3 from o7) ha) (by rw [cutV_int]; exact dvAll_int.mpr rfl)
/-- self.held = self.held[lo:hi] -/
theorem pw_held {l : List Int} (E : EndF K) (hv : EvN K (pileR K pp q :: rs) tv ds (l.map Da.int) (pileR K pp q :: rs1)) (ho : ∀ rs', Ev K rs' ta ds (.ref pp) rs') (k : G K F0 tz D ds (pileR K pp { q with held := l } :: rs1)) : G K F0 (tSeq (sFld K ta tv "held") tz) D ds (pileR K pp q :: rs) := fun σ F H s vs o =>
  hv σ F H vs o _ fun a F1 H1 s1 o1 => ho _ σ F1 H1 (vs.mono s1) o1 _ fun x F2 H2 s2 dx o2 => by
    obtain ⟨dx2, hl, el, o5⟩ := pile_open (ow_swap o2)
    -- the new list goes where the old one was
    have o6 : Ow F2 (ol K a (l.map Da.int) :: ckR (pt pp (.ins (cP K) dx2 (pflds q hl el))) :: ckR (pt el (.dK (kvE q.early))) :: rs1) H2 := by
      have z := ow_in (fun _ _ o => ow_in (fun _ _ o => ow_swap o) (ow_in (fun _ _ o => ow_swap o) o)) o5
      -- pp, el?, ..
      have z1 := ow_in (fun _ _ o => ow_tail o) o5
      have z2 := ow_in (fun _ _ o => ow_swap o) z1
      exact ow_in (fun _ _ o => o) (ow_swap z2) |> fun w => w
    obtain ⟨xs, hx, o7⟩ := ol_out o6
    rw [dvAll_int.mp hx] at o7
    have o8 : Ow F2 (ckR (pt a (.lst (l.map V.int))) :: ckR (pt pp (.ins (cP K) dx2 (pflds q hl el))) :: ckR (pt el (.dK (kvE q.early))) :: rs1) H2 := own_swap o7
    have o9 := ow_swap o8
    refine ⟨pp, cP K, dx2, _, dx, ow_at o9, E.cp, E.np _ (by simp), by show 4 < 1000; decide, ?_⟩
    rw [show putF ("held" : Str) (.ref a) (pflds q hl el) = pflds { q with held := l } a el by kernel_rfl]
    exact k σ F2 _ (s.trans (s1.trans s2)) (vs.mono (s1.trans s2)) (pile_close (ow_store o9))
theorem kvE_val (l : List (Int × Int)) (k : Int) : valV (kvE l) (Sum.inl k) = (M.getK l k).map V.int := by
  unfold valV kvE M.getK
  rw [List.find?_map]
  have e : ((fun kv : Key × V => decide (kv.1 = Sum.inl k)) ∘ fun p : Int × Int => ((Sum.inl p.1 : Key), V.int p.2)) = fun x : Int × Int => decide (x.1 = k) := by
    funext x
    by_cases h : x.1 = k
    · simp [h]
    · simp [h]
  rw [e]
  cases l.find? (fun x => decide (x.1 = k)) <;> rfl
theorem kvE_put {l : List (Int × Int)} {k v : Int} (h : M.getK l k = none) : putK (kvE l) (Sum.inl k) (.int v) = kvE (l ++ [(k, v)]) := by
  unfold putK
  rw [valV_any, kvE_val, h]
  unfold kvE
  rw [List.map_append]
  rfl
theorem kvE_drop (l : List (Int × Int)) (k : Int) : dropK (kvE l) (Sum.inl k) = kvE (M.delK l k) := by
  unfold dropK kvE M.delK
  rw [List.filter_map]
  congr 1
  refine List.filter_congr fun x _ => ?_
  by_cases h : x.1 = k
  · simp [h]
  · simp [h]
/-- self.early.setdefault(k, v) -/
theorem p_setd {kk vv : Int} (E : EndF K) (ho : Ev K (pileR K pp q :: rs) ta ds (.ref pp) (pileR K pp q :: rs)) (hk : ∀ dx hl el, Ev K (ckR (pt pp (.ins (cP K) dx (pflds q hl el))) :: ckR (pt hl (.lst (q.held.map V.int))) :: ckR (pt el (.dK (kvE q.early))) :: rs) tb ds (.int kk) (ckR (pt pp (.ins (cP K) dx (pflds q hl el))) :: ckR (pt hl (.lst (q.held.map V.int))) :: ckR (pt el (.dK (kvE q.early))) :: rs))
    (hv : ∀ rs', Ev K rs' tc ds (.int vv) rs') (hz : q.early.length < 100000) (k : G K F0 tz D ds (pileR K pp { q with early := M.addK q.early kk vv } :: rs)) : G K F0 (tSeq (tDrop (tDSetd (tFld K ta "early") tb tc)) tz) D ds (pileR K pp q :: rs) := fun σ F H s vs o =>
  ho σ F H vs o _ fun x F1 H1 s1 dx o1 => by
    obtain ⟨dx2, hl, el, o5⟩ := pile_open o1
    refine ⟨pp, cP K, dx2, _, .ref el, dx, ow_at o5, E.cp, E.np _ (by simp), by kernel_rfl, ?_⟩
    refine ⟨el, rfl, .inl ⟨_, .inl (ow_at (ow_tail (ow_tail o5)))⟩, ?_⟩
    refine hk dx2 hl el σ F1 H1 (vs.mono s1) o5 _ fun y F2 H2 s2 dy o6 => hv _ σ F2 H2 (vs.mono (s1.trans s2)) o6 _ fun z F3 H3 s3 dz o7 => ?_
    have hs : s.trans (s1.trans (s2.trans s3)) = s.trans (s1.trans (s2.trans s3)) := rfl
    refine ⟨kvE q.early, Sum.inl kk, ow_at (ow_tail (ow_tail o7)), dy, by unfold kvE; rw [List.length_map]; exact Evl.sz_lt hz, fun v hv => ?_, fun hn => ?_⟩
    · rw [kvE_val] at hv
      have e : M.addK q.early kk vv = q.early := by
        unfold M.addK
        cases g : M.getK q.early kk with
        | none => rw [g] at hv; cases hv
        | some b => rfl
      rw [e] at k
      exact k σ F3 H3 (s.trans (s1.trans (s2.trans s3))) (vs.mono (s1.trans (s2.trans s3))) (pile_close o7)
    · rw [kvE_val] at hn
      have hn2 : M.getK q.early kk = none := by
        cases g : M.getK q.early kk with
        | none => rfl
        | some b => rw [g] at hn; cases hn
      rw [show z = _ from dz, kvE_put hn2]
      have e : M.addK q.early kk vv = q.early ++ [(kk, vv)] := by unfold M.addK; rw [hn2]; rfl
      rw [← e]
      have o8 := ow_swap (ow_in (fun _ _ o => ow_swap o) o7)
      have o9 := ow_in (fun _ _ o => ow_swap o) o7
      have o10 := ow_swap o9
      refine k σ F3 _ (s.trans (s1.trans (s2.trans s3))) (vs.mono (s1.trans (s2.trans s3))) (pile_close (q := { q with early := M.addK q.early kk vv }) (dx := dx2) (hl := hl) (el := el) ?_)
      have o11 := ow_store (v := .dK (kvE (M.addK q.early kk vv))) o10
      exact ow_in (fun _ _ o => ow_swap o) (ow_swap o11)
/-- k in self.early -/
theorem p_in {kk : Int} (E : EndF K) (hk : Ev K (pileR K pp q :: rs) tb ds (.int kk) (pileR K pp q :: rs)) (ho : Ev K (pileR K pp q :: rs) ta ds (.ref pp) (pileR K pp q :: rs)) : Ev K (pileR K pp q :: rs) (tDIn tb (tFld K ta "early")) ds (.bl (M.getK q.early kk).isSome) (pileR K pp q :: rs) := fun σ F H vs o Q k =>
  hk σ F H vs o _ fun y F1 H1 s1 dy o1 => ho σ F1 H1 (vs.mono s1) o1 _ fun x F2 H2 s2 dx o2 => by
    obtain ⟨dx2, hl, el, o5⟩ := pile_open o2
    refine ⟨pp, cP K, dx2, _, .ref el, dx, ow_at o5, E.cp, E.np _ (by simp), by kernel_rfl, ?_⟩
    refine ⟨el, (M.getK q.early kk).map V.int, rfl, .inl ⟨_, Sum.inl kk, .inl (ow_at (ow_tail (ow_tail o5))), dy, (kvE_val _ _).symm⟩, ?_⟩
    rw [Option.isSome_map]
    exact k _ F2 H2 (s1.trans s2) rfl o2
/-- self.held.append(self.early.pop(self.come)) -/
theorem p_take {b : Int} (E : EndF K) (ho : ∀ rs', Ev K rs' ta ds (.ref pp) rs') (hb : M.getK q.early q.come = some b) (hz : q.held.length < 100000) (k : G K F0 tz D ds (pileR K pp { q with held := q.held ++ [b], early := M.delK q.early q.come } :: rs)) :
    G K F0 (tSeq (tDrop (tBM K "list" rAppend (tFld K ta "held") (tCons (tDPop1 (tFld K ta "early") (tFld K ta "come")) tNil))) tz) D ds (pileR K pp q :: rs) := fun σ F H s vs o =>
  ho _ σ F H vs o _ fun x F1 H1 s1 dx o1 => by
    obtain ⟨dx2, hl, el, o5⟩ := pile_open o1
    refine ⟨pp, cP K, dx2, _, .ref hl, dx, ow_at o5, E.cp, E.np _ (by simp), by kernel_rfl, ?_⟩
    refine ⟨.inl ⟨rfl, _, .inl (.inl (ow_at (ow_tail o5)))⟩, ?_⟩
    refine ho _ σ F1 H1 (vs.mono s1) o5 _ fun x2 F2 H2 s2 dx3 o6 => ?_
    refine ⟨pp, cP K, dx2, _, .ref el, dx3, ow_at o6, E.cp, E.np _ (by simp), by kernel_rfl, ?_⟩
    refine ⟨el, rfl, .inl ⟨_, .inl (ow_at (ow_tail (ow_tail o6)))⟩, ?_⟩
    refine ho _ σ F2 H2 (vs.mono (s1.trans s2)) o6 _ fun x4 F3 H3 s3 dx5 o7 => ?_
    refine ⟨pp, cP K, dx2, _, .int q.come, dx5, ow_at o7, E.cp, E.np _ (by simp), by kernel_rfl, ?_⟩
    refine ⟨kvE q.early, Sum.inl q.come, .int b, ow_at (ow_tail (ow_tail o7)), rfl, by rw [kvE_val, hb]; rfl, ?_⟩
    rw [kvE_drop]
    have o9 := ow_swap (ow_in (fun _ _ o => ow_swap o) o7)
    have o11 := ow_store (v := .dK (kvE (M.delK q.early q.come))) o9
    have o12 := ow_in (fun _ _ o => ow_swap o) (ow_swap o11)
    -- pp, hl, el
    have o13 := ow_swap o12
    refine ⟨hl, _, .int b, rfl, rfl, ow_at o13, by rw [List.length_map]; exact Evl.sz_lt hz, ?_⟩
    have o14 := ow_store (v := .lst (q.held.map V.int ++ [V.int b])) o13
    refine k σ F3 _ (s.trans (s1.trans (s2.trans s3))) (vs.mono (s1.trans (s2.trans s3))) (pile_close (q := { q with held := q.held ++ [b], early := M.delK q.early q.come }) (dx := dx2) (hl := hl) (el := el) ?_)
    have o15 := ow_swap o14
    rw [show (q.held ++ [b]).map V.int = q.held.map V.int ++ [V.int b] from List.map_append]
    exact o15
theorem eqOI (ha : Ev K rs ta ds (.int i) rs1) (hb : Ev K rs1 tb ds (oi o2) rs2) : Ev K rs (tOp rEq ta tb) ds (.bl (decide (some i = o2))) rs2 := op ha hb fun x y F H hx hy o Q k => by
  rw [show x = _ from hx]
  cases o2 with
  | none => rw [show y = _ from hy]; exact ⟨rfl, k _ F H (Sub.refl F) (by simp [Dv]) o⟩
  | some j => rw [show y = _ from hy]; exact ⟨rfl, k _ F H (Sub.refl F) (by simp [Dv]) o⟩
theorem neOI (ha : Ev K rs ta ds (.int i) rs1) (hb : Ev K rs1 tb ds (oi o2) rs2) : Ev K rs (tOp rNe ta tb) ds (.bl (!decide (some i = o2))) rs2 := op ha hb fun x y F H hx hy o Q k => by
  rw [show x = _ from hx]
  cases o2 with
  | none => rw [show y = _ from hy]; exact ⟨rfl, k _ F H (Sub.refl F) (by simp [Dv]) o⟩
  | some j => rw [show y = _ from hy]; exact ⟨rfl, k _ F H (Sub.refl F) (by simp [Dv]) o⟩
theorem non_oi {v : V} (h : Dv K F (oi o2) v) : decide (v = V.non) = o2.isNone := by
  cases o2 with
  | none => rw [show v = _ from h]; rfl
  | some n => rw [show v = _ from h]; rfl
end
end Lg

/-! The program's defs over ends, way by way. -/
namespace E
open M
def inS (s : St) (l : List St) : Bool := l.any fun t => decide (s = t)
abbrev giving : List St := [.opn, .waitOne, .closeWait, .closing, .lastAck]
abbrev ending : List St := [.waitOne, .closing, .lastAck]
abbrev writing : List St := [.synSent, .synCome, .opn, .closeWait]
abbrev hearing : List St := [.opn, .waitOne, .waitTwo]
def outstanding (e : EndS) : Int := offset e.nxt e.una
def unsent (e : EndS) : Int := if (!e.synced) = true then (e.out.length : Int) else mx 0 ((e.out.length : Int) - outstanding e)
def made (e : EndS) (num flags : Int) (data : List Int) : List Int := put ⟨e.ours, e.theirs, num, e.rcv, flags + 16, room e.pile, 0, data⟩
def syn_made (e : EndS) : List Int :=
  if decide (e.state = .synCome) = true then put ⟨e.ours, e.theirs, e.first, e.rcv, 2 + 16, 64, 16, []⟩ else put ⟨e.ours, e.theirs, e.first, 0, 2, 64, 16, []⟩
def again (e : EndS) (now : Int) : EndS × List Int :=
  if decide (e.tries = 6) = true then (shut e .time, []) else
    let e1 := { e with tries := e.tries + 1, wait := mn (2 * e.wait) 16000, since := now }
    if (!e1.synced) = true then ({ e1 with owes_syn := false }, syn_made { e1 with owes_syn := false }) else
      if decide (0 < (e1.out.length : Int) - unsent e1) = true then (e1, made e1 e1.una 0 (sl e1.out none (some (mn (mn ((e1.out.length : Int) - unsent e1) e1.most) 16)))) else (e1, made e1 e1.una 1 [])
def syn2 (e : EndS) : EndS × List Int := ({ e with nxt := plus e.first 1, owes_syn := false }, syn_made { e with nxt := plus e.first 1, owes_syn := false })
def syn_goes (e : EndS) (now : Int) : EndS × List Int := if decide (e.nxt = e.first) = true then syn2 (start e now) else syn2 e
def gone2 (e : EndS) (many : Int) : EndS := { e with nxt := plus e.nxt many, probing := false, owes_answer := false }
def gone (e : EndS) (now many : Int) : EndS := if decide (outstanding e = 0) = true then gone2 (start e now) many else gone2 e many
def data_goes (e : EndS) (now many : Int) : EndS × List Int :=
  (gone e now many, made (gone e now many) e.nxt (if decide ((e.out.length : Int) - unsent e + many = (e.out.length : Int)) = true then 8 else 0) (sl e.out (some ((e.out.length : Int) - unsent e)) (some ((e.out.length : Int) - unsent e + many))))
def fin_goes (e : EndS) (now : Int) : EndS × List Int := (gone { e with fin_gone := true } now 1, made (gone { e with fin_gone := true } now 1) e.nxt 1 [])
def has_more (e : EndS) : Bool := if (inS e.state giving && decide (0 < unsent e)) = true then true else (inS e.state ending && !e.fin_gone)
def probe2 (e : EndS) (now : Int) (r : EndS × List Int) : EndS × List Int := ({ r.1 with wait := e.wait, tries := e.tries, owes_answer := e.owes_answer, since := now }, r.2)
def probe (e : EndS) (now : Int) : EndS × List Int :=
  if (decide (0 < outstanding e) || (decide (0 < e.wnd) || !has_more e)) = true then ({ e with probing := false }, []) else
    if (!e.probing) = true then (start { e with probing := true } now, []) else
      if decide (now - e.since < e.wait) = true then (e, []) else
        if decide (0 < unsent e) = true then probe2 e now (data_goes e now 1) else probe2 e now (fin_goes e now)
def answer_goes (e : EndS) : EndS × List Int :=
  if (!e.owes_answer || (inS e.state [.synSent, .closed] || (decide (e.state = .synCome) && decide (e.nxt = e.first)))) = true then (e, []) else
    ({ e with owes_answer := false }, made { e with owes_answer := false } e.nxt 0 [])
def many_new (e : EndS) : Int := mn (mn (mn e.most 16) (unsent e)) (mx 0 (e.wnd - outstanding e))
def new_goes (e : EndS) (now : Int) : EndS × List Int :=
  if (inS e.state giving && decide (0 < unsent e)) = true then (if decide (0 < many_new e) = true then data_goes e now (many_new e) else (e, []))
  else if (inS e.state ending && (!e.fin_gone && decide (0 < e.wnd - outstanding e))) = true then fin_goes e now else (e, [])
def send4 (r : EndS × List Int) : EndS × List Int := if (!(!r.2.isEmpty)) = true then answer_goes r.1 else r
def send3 (r : EndS × List Int) (now : Int) : EndS × List Int := if (!(!r.2.isEmpty)) = true then send4 (probe r.1 now) else send4 r
def send2 (e : EndS) (now : Int) : EndS × List Int :=
  if inS e.state [.closed, .listen] = true then (e, []) else
    if (decide (0 < outstanding e) && decide (e.wait ≤ now - e.since)) = true then again e now else
      if inS e.state [.synSent, .synCome] = true then (if (decide (e.nxt = e.first) || e.owes_syn) = true then syn_goes e now else answer_goes e)
      else send3 (new_goes e now) now
def send (e : EndS) (now : Int) : EndS × List Int :=
  match e.reset with
  | some s => ({ e with reset := none }, put s)
  | none => if (decide (e.state = .timeWait) && decide (120000 ≤ now - e.since)) = true then send2 (shut e e.error) now else send2 e now
/-! ### calls.py -/
def write (e : EndS) (row : List Int) : EndS × Int :=
  if (!(inS e.state writing) || e.fin) = true then (e, 0) else
    ({ e with out := e.out ++ sl row none (some (mn (row.length : Int) (64 - (e.out.length : Int)))) }, mn (row.length : Int) (64 - (e.out.length : Int)))
def read (e : EndS) (many : Int) : EndS × List Int :=
  if (decide (room e.pile = 0) && (decide (0 < room (taken e.pile many).1) && inS e.state [.opn, .waitOne, .waitTwo])) = true then ({ e with pile := (taken e.pile many).1, owes_answer := true }, (taken e.pile many).2)
  else ({ e with pile := (taken e.pile many).1 }, (taken e.pile many).2)
def close (e : EndS) : EndS × Bool :=
  if inS e.state [.listen, .synSent] = true then (shut e e.error, true) else
    if (e.fin || !(inS e.state [.synCome, .opn, .closeWait])) = true then (e, false) else
      if decide (e.state = .opn) = true then ({ e with fin := true, state := .waitOne }, true) else
        if decide (e.state = .closeWait) = true then ({ e with fin := true, state := .lastAck }, true) else ({ e with fin := true }, true)
def abort (e : EndS) : EndS × Bool :=
  if decide (e.state = .closed) = true then (e, false) else
    if (!(inS e.state [.listen, .synSent, .timeWait])) = true then (shut { e with reset := some ⟨e.ours, e.theirs, e.nxt, 0, 4, 0, 0, []⟩ } e.error, true) else (shut e e.error, true)
/-! ### opening.py -/
def reset_for (e : EndS) (s : Seg) : EndS :=
  if has s 16 = true then { e with reset := some ⟨e.ours, s.src, s.ans, 0, 4, 0, 0, []⟩ } else { e with reset := some ⟨e.ours, s.src, 0, plus s.num (length s), 4 + 16, 0, 0, []⟩ }
def hear_window (e : EndS) (s : Seg) : EndS := { e with wnd := s.win, told := s.num, told_by := s.ans }
def hear_syn (e : EndS) (s : Seg) : EndS :=
  if decide (0 < s.most) = true then { hear_window { e with rcv := plus s.num 1 } s with most := s.most } else hear_window { e with rcv := plus s.num 1 } s
def at_closed (e : EndS) (s : Seg) : EndS := if (!has s 4) = true then reset_for e s else e
def at_listen (e : EndS) (s : Seg) : EndS :=
  if has s 4 = true then e else if has s 16 = true then reset_for e s else
    if has s 2 = true then { hear_syn { e with theirs := s.src } s with told_by := 0, state := .synCome } else e
def at_syn_sent (e : EndS) (s : Seg) (now : Int) : EndS :=
  if (has s 16 && (!decide (s.ans = plus e.first 1) || decide (e.nxt = e.first))) = true then (if (!has s 4) = true then reset_for e s else e) else
    if has s 4 = true then (if has s 16 = true then shut e .refused else e) else
      if (!has s 2) = true then e else
        if (!has s 16) = true then { start { hear_syn e s with told_by := 0, state := .synCome } now with owes_syn := true }
        else { hear_syn e s with una := plus (hear_syn e s).first 1, synced := true, state := if (hear_syn e s).fin = true then .waitOne else .opn, owes_answer := true }
/-! ### arriving.py -/
def fits (e : EndS) (s : Seg) : Bool :=
  if decide (length s = 0) = true then (decide (0 ≤ offset s.num e.rcv) && decide (offset s.num e.rcv ≤ 64)) else
    (decide (0 < room e.pile) && ((decide (0 ≤ offset s.num e.rcv) && decide (offset s.num e.rcv < room e.pile)) || (decide (0 ≤ offset s.num e.rcv + length s - 1) && decide (offset s.num e.rcv + length s - 1 < room e.pile))))
def oop2 (e : EndS) (now : Int) : EndS := if decide (e.state = .timeWait) = true then { e with since := now } else e
def out_of_place (e : EndS) (s : Seg) (now : Int) : EndS :=
  if has s 4 = true then e else
    if (decide (e.state = .synCome) && (has s 2 && !has s 16)) = true then oop2 { e with owes_syn := true } now else oop2 { e with owes_answer := true } now
def reset_comes (e : EndS) (s : Seg) : EndS :=
  if decide (e.state = .timeWait) = true then e else if decide (s.num = e.rcv) = true then shut e .reset else { e with owes_answer := true }
def first_answer (e : EndS) (s : Seg) : EndS × Bool :=
  if (!decide (s.ans = e.nxt) || decide (e.nxt = e.first)) = true then (reset_for e s, false) else
    (hear_window { e with una := s.ans, synced := true, state := if e.fin = true then .waitOne else .opn } s, true)
def newer (e : EndS) (s : Seg) : Bool := past s.num e.told || (decide (s.num = e.told) && !past e.told_by s.ans)
def wc2 (e e1 : EndS) : EndS := if (decide (e.wnd = 0) || decide (e1.wnd = 0)) = true then { e1 with tries := 0 } else e1
def window_comes (e : EndS) (s : Seg) (g : Bool) : EndS := if (g || newer e s) = true then wc2 e (hear_window e s) else wc2 e e
def all_heard (e : EndS) (now : Int) : EndS :=
  if decide (e.state = .waitOne) = true then { e with state := .waitTwo } else
    if decide (e.state = .closing) = true then { e with state := .timeWait, since := now } else
      if decide (e.state = .lastAck) = true then shut e .none else e
def ac3 (e : EndS) : EndS × Bool := (e, !decide (e.state = .closed))
def ac2 (e : EndS) (now : Int) : EndS × Bool := if (e.fin_gone && decide (e.una = e.nxt)) = true then ac3 (all_heard e now) else ac3 e
def ac1 (e : EndS) (s : Seg) (g : Bool) (now : Int) : EndS × Bool := if (!past e.una s.ans) = true then ac2 (window_comes e s g) now else ac2 e now
def answer_comes (e : EndS) (s : Seg) (now : Int) : EndS × Bool :=
  if decide (e.state = .synCome) = true then first_answer e s else
    if past s.ans e.nxt = true then ({ e with owes_answer := true }, false) else
      if past s.ans e.una = true then
        (if decide (0 < outstanding { e with out := sl e.out (some (offset s.ans e.una)) none, una := s.ans }) = true then ac1 (start { e with out := sl e.out (some (offset s.ans e.una)) none, una := s.ans } now) s (past s.ans e.una) now
         else ac1 { e with out := sl e.out (some (offset s.ans e.una)) none, una := s.ans } s (past s.ans e.una) now)
      else ac1 e s (past s.ans e.una) now
def dc4 (e : EndS) (now : Int) : EndS :=
  if decide (e.state = .opn) = true then { e with state := .closeWait } else
    if decide (e.state = .waitOne) = true then { e with state := .closing } else { e with state := .timeWait, since := now }
def dc3 (e : EndS) (now : Int) : EndS :=
  if (!is_over (settle e.pile).1) = true then { e with pile := (settle e.pile).1, rcv := plus e.rcv (settle e.pile).2 } else
    dc4 { e with pile := (settle e.pile).1, rcv := plus (plus e.rcv (settle e.pile).2) 1 } now
def dc2 (e : EndS) (s : Seg) (far now : Int) : EndS :=
  if has s 1 = true then dc3 { e with pile := keep_end e.pile (far + (s.data.length : Int)), owes_answer := true } now else dc3 e now
def data_comes (e : EndS) (s : Seg) (now : Int) : EndS :=
  if (!s.data.isEmpty) = true then dc2 { e with pile := keep e.pile (offset s.num e.rcv) s.data, owes_answer := true } s (offset s.num e.rcv) now else dc2 e s (offset s.num e.rcv) now
def at_others (e : EndS) (s : Seg) (now : Int) : EndS :=
  if (!fits e s) = true then out_of_place e s now else
    if has s 4 = true then reset_comes e s else
      if has s 2 = true then { e with owes_answer := true } else
        if has s 16 = true then (if (answer_comes e s now).2 = true then (if inS (answer_comes e s now).1.state hearing = true then data_comes (answer_comes e s now).1 s now else (answer_comes e s now).1) else (answer_comes e s now).1) else e
def arrive_segment (e : EndS) (s : Seg) (now : Int) : EndS × Bool :=
  if (!decide (s.goal = e.ours) || (!(inS e.state [.closed, .listen]) && !decide (s.src = e.theirs))) = true then (e, false) else
    if decide (e.state = .closed) = true then (at_closed e s, true) else
      if decide (e.state = .listen) = true then (at_listen e s, true) else
        if decide (e.state = .synSent) = true then (at_syn_sent e s now, true) else (at_others e s now, true)
def arrive (e : EndS) (row : List Int) (now : Int) : EndS × Bool := if isRight row = true then arrive_segment e (getS row) now else (e, false)
end E
namespace Lg
open PySem PySem.Spec PyProof.Rows L2 Wr
section
variable {K : PySem.W.Frag} {F0 F H : Hp} {D : Ends} {ds : List (Option Da)} {rs rs0 rs1 rs2 rs3 rest : List Rs} {ta tb tv tc te : TE} {tA : TA} {tz t tw tu : TS} {tt tt2 : TT} {d : Da} {l : List Da} {p pp : Addr} {a b : M.St} {x y : M.Er} {bo bo2 : Bool}
theorem st_dec (a b : M.St) : decide (stx a = stx b) = decide (a = b) := by cases a <;> cases b <;> rfl
theorem er_dec (a b : M.Er) : decide (etx a = etx b) = decide (a = b) := by cases a <;> cases b <;> rfl
theorem cSt (a : M.St) : Ev K rs (tC (.str (stx a))) ds (.str (stx a)) rs := cStr
theorem cEt (a : M.Er) : Ev K rs (tC (.str (etx a))) ds (.str (etx a)) rs := cStr
theorem eqSt (ha : Ev K rs ta ds (.str (stx a)) rs1) (hb : Ev K rs1 tb ds (.str (stx b)) rs2) : Ev K rs (tOp rEq ta tb) ds (.bl (decide (a = b))) rs2 := is_ (eqS ha hb) (by rw [st_dec])
theorem neSt (ha : Ev K rs ta ds (.str (stx a)) rs1) (hb : Ev K rs1 tb ds (.str (stx b)) rs2) : Ev K rs (tOp rNe ta tb) ds (.bl (!decide (a = b))) rs2 := is_ (neS ha hb) (by rw [st_dec])
theorem eqEt (ha : Ev K rs ta ds (.str (etx x)) rs1) (hb : Ev K rs1 tb ds (.str (etx y)) rs2) : Ev K rs (tOp rEq ta tb) ds (.bl (decide (x = y))) rs2 := is_ (eqS ha hb) (by rw [er_dec])
theorem neEt (ha : Ev K rs ta ds (.str (etx x)) rs1) (hb : Ev K rs1 tb ds (.str (etx y)) rs2) : Ev K rs (tOp rNe ta tb) ds (.bl (!decide (x = y))) rs2 := is_ (neS ha hb) (by rw [er_dec])
theorem ifeSt (h : EvT K rs tt ds bo rs) (h1 : bo = true → Ev K rs ta ds (.str (stx a)) rs1) (h2 : bo = false → Ev K rs tb ds (.str (stx b)) rs1) : Ev K rs (tIf tt ta tb) ds (.str (stx (if bo = true then a else b))) rs1 :=
  is_ (ife h h1 h2) (by split <;> rfl)
abbrev stD (s : M.St) : Da := .str (stx s)
theorem dvAll_st : ∀ {l : List M.St} {xs : List V}, DvAll K F (l.map stD) xs → xs = l.map fun s => V.str (stx s)
  | [], _, h => h
  | s :: l, _, ⟨v, r, e, h1, h2⟩ => by rw [e, show v = V.str (stx s) from h1, dvAll_st h2]; rfl
theorem inV_st (s : M.St) : ∀ l : List M.St, inV (V.str (stx s)) (l.map fun s => V.str (stx s)) = E.inS s l
  | [] => rfl
  | t :: l => by
    have ih := inV_st s l
    unfold inV E.inS at *
    rw [List.map_cons, List.any_cons, List.any_cons, ih]
    congr 1
    cases s <;> cases t <;> rfl
theorem flat_st (l : List M.St) : (l.map fun s => V.str (stx s)).all flatV = true := by
  rw [List.all_map]
  exact List.all_eq_true.mpr fun _ _ => rfl
theorem inSt (l : List M.St) (ha : Ev K rs ta ds (.str (stx a)) rs1) (hb : Ev K rs1 tb ds (.tup (l.map stD)) rs2) : Ev K rs (tOp (rIn K false) ta tb) ds (.bl (E.inS a l)) rs2 :=
  op ha hb fun x y F H hx hy o Q q => by
    obtain ⟨p, xs, rfl, h1, h2⟩ := hy
    rw [dvAll_st h2] at h1
    rw [show x = _ from hx]
    refine ⟨p, _, rfl, .inr (sqt_up (ow_sub o) h1), rfl, flat_st l, ?_⟩
    rw [inV_st]
    exact q _ F H (Sub.refl F) rfl o
theorem niSt (l : List M.St) (ha : Ev K rs ta ds (.str (stx a)) rs1) (hb : Ev K rs1 tb ds (.tup (l.map stD)) rs2) : Ev K rs (tOp (rIn K true) ta tb) ds (.bl (!E.inS a l)) rs2 :=
  op ha hb fun x y F H hx hy o Q q => by
    obtain ⟨p, xs, rfl, h1, h2⟩ := hy
    rw [dvAll_st h2] at h1
    rw [show x = _ from hx]
    refine ⟨p, _, rfl, .inr (sqt_up (ow_sub o) h1), rfl, flat_st l, ?_⟩
    rw [inV_st]
    exact q _ F H (Sub.refl F) rfl o
/-- a tuple of states at a name of the module -/
theorem gTup {z : Str} {l : List M.St} (h : ∀ H : Hp, SqT K H (He.ga K z) (l.map fun s => V.str (stx s))) : Ev K rs (tC (.ref (He.ga K z))) ds (.tup (l.map stD)) rs := fun σ F H vs o Q q => by
  refine q _ F H (Sub.refl F) ⟨_, _, rfl, h F, ?_⟩ o
  clear h q o vs
  induction l with
  | nil => rfl
  | cons s l ih => exact ⟨_, _, rfl, rfl, ih⟩
/-! ### tests that do something -/
theorem g_ifAnd1 (h : EvT K rs tt ds bo rs1) (h1 : bo = true → G K F0 (tIfS tt2 tw tu) D ds rs1) (h2 : bo = false → G K F0 tu D ds rs1) : G K F0 (tIfS (tAnd tt tt2) tw tu) D ds rs := fun σ F H s vs o =>
  h σ F H vs o _ fun F1 H1 s1 o1 => by
    cases e : bo with
    | true => rw [if_pos rfl]; exact h1 e σ F1 H1 (s.trans s1) (vs.mono s1) o1
    | false => rw [if_neg Bool.false_ne_true]; show (if false = true then tw D σ H1 else tu D σ H1); rw [if_neg Bool.false_ne_true]; exact h2 e σ F1 H1 (s.trans s1) (vs.mono s1) o1
theorem g_ifAnd (h : EvT K rs tt ds bo rs1) (h1 : bo = true → G K F0 (tSeq (tIfS tt2 tw tu) tz) D ds rs1) (h2 : bo = false → G K F0 tu { D with nx := tz D } ds rs1) : G K F0 (tSeq (tIfS (tAnd tt tt2) tw tu) tz) D ds rs := g_ifAnd1 (D := { D with nx := tz D }) h h1 h2
/-- self.m(..), in a method of a pile -/
theorem pileQ {f : M.PileS → List Da → M.PileS → Da → Prop} {m : Str} {q q' : M.PileS} {X : XK} (ho : Ev K rs ta ds (.ref pp) rs) (hp : Put (pileR K pp q) (pileR K pp q') rs rs2) (ha : ∀ rs', EvA K rs' tA ds l rs') (hm : ∀ q hl el, (pflds q hl el).lookup m = none) (hf : f q l q' d) :
    Ev K rs (tMeth (cP K) m (SpG K (RQ K f)) [] X ta tA) ds d rs2 := fun σ F H vs o Q k => ho σ F H vs o _ fun x F1 H1 s1 dx o1 => by
  obtain ⟨mm, hp1, hp2⟩ := hp.two
  have o2 := ow_pick hp1 o1
  obtain ⟨dx2, hl, el, o5⟩ := pile_out o2
  refine ⟨pp, dx2, _, dx, pt_ok.mp (own_head o5), hm _ _ _, ?_⟩
  refine ha _ σ F1 H1 (vs.mono s1) o2 _ fun ws F2 H2 s2 dw o6 => ?_
  rw [show x = _ from dx]
  exact ⟨F2, .ref pp :: l, _, d, _, by rw [List.append_nil]; exact ⟨_, _, rfl, rfl, dw⟩, o6, ⟨pp, q, l, _, q', rfl, rfl, hf, rfl⟩, fun v F3 H3 s3 dv o7 => k v F3 H3 ((s1.trans s2).trans s3) dv (ow_back hp2 o7)⟩
end
end Lg

/-! min of four ints. -/
namespace Wr
open PySem PySem.Spec PyProof.Rows
section
variable {pr : Program} {ww : World} {Aa : Around} {Ee : Value → Shared → Prop} {sh : Shared}
theorem min4_args (i j k l : Value) : argsOk "min" ⟨[i, j, k, l], []⟩ := by unfold argsOk; kernel_rfl
theorem min4_call {i j k l : Value} {R : Value → Shared → Prop}
    (h : wpAny (model pr ww) Aa.in1 (pyIter (.ref sh.heap.objs.size)) (fun it s2 => ∃ J fp wr n P Z bt, it = .ref J ∧ Walks pr ww Aa.in1 J fp wr n P Z ∧ Z 0 s2.heap ∧ (∀ x ∈ fp, x < s2.heap.objs.size) ∧ 0 < n ∧ CmpOf pr ww Aa.in1 .Lt P bt ∧
      ∀ v h2 tk, P (argBest bt (n - 1)) v → (∀ x o, x ∉ wr → s2.heap.get? x = some o → h2.get? x = some o) → R v { s2 with heap := h2, toks := tk }) Ee { sh with heap := sh.heap.push { cls := .type "tuple", data := .seq #[i, j, k, l] } }) :
    wpAny (model pr ww) Aa (call (.builtin "min") [i, j, k, l]) R Ee sh := by
  have nm : (toString "min" ++ toString ".loop" : String) = "min.loop" := by decide
  refine call_function_tree F.kind_min F.plain_min F.entry_min (min4_args i j k l) ?_
  show wpAny _ Aa.in1 (Builtin.Builtins.bindParams "min" ["key", "default"] 0 ⟨[], []⟩ >>= _) _ _ sh
  refine wpAny_bind (wpAny_of_eq (show Builtin.Builtins.bindParams "min" ["key", "default"] 0 ⟨[], []⟩ = pure [none, none] from rfl) ?_)
  show wpAny _ Aa.in1 (newTuple [i, j, k, l] >>= _) _ _ sh
  refine wpAny_bind (wpAny_newObj_type (wpAny_bind (wpAny_mono h (fun it s2 h2 => ?_) fun _ _ z => z)))
  obtain ⟨J, fp, wr, n, P, Z, bt, rfl, wk, hz, hf, hn, hc, hR⟩ := h2
  have nf : s2.heap.objs.size ∉ fp := fun hm => absurd (hf _ hm) (Nat.lt_irrefl _)
  refine wpAny_bind (wpAny_newObj_type ?_)
  rw [nm]
  refine wpAny_pure ⟨plainId_quiet F.plain_min_loop _, codeAny_min_loop_first wk bt hc s2.heap.objs.size nf hn (wk.frame _ _ _ hz fun x _ o e => Heap.get?_push_of_some _ e) (Heap.get?_push_size _ rfl) fun v h2 tk hP hk => hR v h2 tk hP fun x o hx e => ?_⟩
  exact hk x o hx (Nat.ne_of_lt (Heap.lt_size e)) (Heap.get?_push_of_some _ e)
theorem min4_ints {i j k l : Int} {ti tj tk tl : Tok} {R : Value → Shared → Prop} (hh : Aa.handled = none)
    (h : ∀ h2 t2 t3, (∀ x o, sh.heap.get? x = some o → h2.get? x = some o) → R (.int (M.mn (M.mn (M.mn i j) k) l) t3) { sh with heap := h2, toks := t2 }) :
    wpAny (model pr ww) Aa (call (.builtin "min") [.int i ti, .int j tj, .int k tk, .int l tl]) R Ee sh := by
  have hT : (sh.heap.push { cls := .type "tuple", data := .seq #[.int i ti, .int j tj, .int k tk, .int l tl] }).IsTuple sh.heap.objs.size (intItems #[(i, ti), (j, tj), (k, tk), (l, tl)]) := ⟨_, Heap.get?_push_size _ rfl, rfl, 0, by simp [intItems]⟩
  refine min4_call (wpAny_pyIter_tuple hT ?_)
  have hs : (sh.heap.push { cls := .type "tuple", data := .seq #[.int i ti, .int j tj, .int k tk, .int l tl] }).objs.size = sh.heap.objs.size + 1 := Heap.size_push ..
  refine ⟨_, [_, sh.heap.objs.size], [_], _, _, _, _, rfl, Walks.tuple (A := Aa.in1) hh _ sh.heap.objs.size (by rw [hs]; exact Nat.ne_of_lt (Nat.lt_succ_self _)) (intItems #[(i, ti), (j, tj), (k, tk), (l, tl)]),
    ⟨⟨_, Heap.get?_push_size _ rfl, rfl, rfl⟩, hT.push _⟩, fun d hd => ?_, by simp [intItems], CmpOf.ints_lt (numAt #[(i, ti), (j, tj), (k, tk), (l, tl)]) (fun _ _ => intItems_at), fun v h2 t2 hP hk => ?_⟩
  · show d < ((sh.heap.push _).push _).objs.size
    rw [Heap.size_push, hs]
    rcases List.mem_cons.mp hd with z | z
    · rw [z.trans hs]; exact Nat.lt_succ_self _
    · rw [List.mem_singleton.mp z]; exact Nat.lt_succ_of_lt (Nat.lt_succ_self _)
  · have old : ∀ x o, sh.heap.get? x = some o → h2.get? x = some o := fun x o e => by
      refine hk x o (fun hm => ?_) (Heap.get?_push_of_some _ (Heap.get?_push_of_some _ e))
      have lt := Heap.lt_size e
      rw [(List.mem_singleton.mp hm).trans hs] at lt
      exact Nat.lt_irrefl _ (Nat.lt_of_succ_lt lt)
    have hP2 : (intItems #[(i, ti), (j, tj), (k, tk), (l, tl)])[argBest (fun x y => decide (numAt #[(i, ti), (j, tj), (k, tk), (l, tl)] x < numAt #[(i, ti), (j, tj), (k, tk), (l, tl)] y)) 3]? = some v := by
      have e3 : (intItems #[(i, ti), (j, tj), (k, tk), (l, tl)]).size - 1 = 3 := by simp [intItems]
      rw [← e3]; exact hP
    have fin : ∃ t3, v = .int (M.mn (M.mn (M.mn i j) k) l) t3 := by
      unfold M.mn
      by_cases h1 : j < i
      · by_cases h2 : k < j
        · by_cases h3 : l < k
          · have e : argBest (fun x y => decide (numAt #[(i, ti), (j, tj), (k, tk), (l, tl)] x < numAt #[(i, ti), (j, tj), (k, tk), (l, tl)] y)) 3 = 3 := by simp [argBest, numAt, h1, h2, h3]
            rw [e] at hP2
            exact ⟨tl, by simpa [intItems, h1, h2, h3] using hP2.symm⟩
          · have e : argBest (fun x y => decide (numAt #[(i, ti), (j, tj), (k, tk), (l, tl)] x < numAt #[(i, ti), (j, tj), (k, tk), (l, tl)] y)) 3 = 2 := by simp [argBest, numAt, h1, h2, h3]
            rw [e] at hP2
            exact ⟨tk, by simpa [intItems, h1, h2, h3] using hP2.symm⟩
        · by_cases h3 : l < j
          · have e : argBest (fun x y => decide (numAt #[(i, ti), (j, tj), (k, tk), (l, tl)] x < numAt #[(i, ti), (j, tj), (k, tk), (l, tl)] y)) 3 = 3 := by simp [argBest, numAt, h1, h2, h3]
            rw [e] at hP2
            exact ⟨tl, by simpa [intItems, h1, h2, h3] using hP2.symm⟩
          · have e : argBest (fun x y => decide (numAt #[(i, ti), (j, tj), (k, tk), (l, tl)] x < numAt #[(i, ti), (j, tj), (k, tk), (l, tl)] y)) 3 = 1 := by simp [argBest, numAt, h1, h2, h3]
            rw [e] at hP2
            exact ⟨tj, by simpa [intItems, h1, h2, h3] using hP2.symm⟩
      · by_cases h2 : k < i
        · by_cases h3 : l < k
          · have e : argBest (fun x y => decide (numAt #[(i, ti), (j, tj), (k, tk), (l, tl)] x < numAt #[(i, ti), (j, tj), (k, tk), (l, tl)] y)) 3 = 3 := by simp [argBest, numAt, h1, h2, h3]
            rw [e] at hP2
            exact ⟨tl, by simpa [intItems, h1, h2, h3] using hP2.symm⟩
          · have e : argBest (fun x y => decide (numAt #[(i, ti), (j, tj), (k, tk), (l, tl)] x < numAt #[(i, ti), (j, tj), (k, tk), (l, tl)] y)) 3 = 2 := by simp [argBest, numAt, h1, h2, h3]
            rw [e] at hP2
            exact ⟨tk, by simpa [intItems, h1, h2, h3] using hP2.symm⟩
        · by_cases h3 : l < i
          · have e : argBest (fun x y => decide (numAt #[(i, ti), (j, tj), (k, tk), (l, tl)] x < numAt #[(i, ti), (j, tj), (k, tk), (l, tl)] y)) 3 = 3 := by simp [argBest, numAt, h1, h2, h3]
            rw [e] at hP2
            exact ⟨tl, by simpa [intItems, h1, h2, h3] using hP2.symm⟩
          · have e : argBest (fun x y => decide (numAt #[(i, ti), (j, tj), (k, tk), (l, tl)] x < numAt #[(i, ti), (j, tj), (k, tk), (l, tl)] y)) 3 = 0 := by simp [argBest, numAt, h1, h2, h3]
            rw [e] at hP2
            exact ⟨ti, by simpa [intItems, h1, h2, h3] using hP2.symm⟩
    obtain ⟨t3, rfl⟩ := fin
    exact h h2 t2 t3 old
end
open L2
def rMin4 : List V → Hp → VK → Prop := fun xs H Q => ∃ i j k l, xs = [.int i, .int j, .int k, .int l] ∧ Q (.int (M.mn (M.mn (M.mn i j) k) l)) H
theorem call_min4 {X : Cx} (hc : X.calm = true) : CallR X (.builtin "min") rMin4 := by
  intro pins s σ H xs us Q I r h
  obtain ⟨i, j, k, l, rfl, q⟩ := h
  cases r with
  | cons r1 r => cases r with
    | cons r2 r => cases r with
      | cons r3 r => cases r with
        | cons r4 r =>
          cases r
          obtain ⟨t1, rfl⟩ := r1
          obtain ⟨t2, rfl⟩ := r2
          obtain ⟨t3, rfl⟩ := r3
          obtain ⟨t4, rfl⟩ := r4
          exact min4_ints (I.ok.hd hc) fun h2 tk t5 kp => ⟨.int (M.mn (M.mn (M.mn i j) k) l), H, I.kept kp, ⟨t5, rfl⟩, q⟩
end Wr
namespace Lg
open PySem PySem.Spec PyProof.Rows L2 Wr
theorem min4 {K : PySem.W.Frag} {ds : List (Option Da)} {rs rs1 rs2 rs3 rs4 : List Rs} {ta tb tc td : TE} {i j k l : Int} (ha : Ev K rs ta ds (.int i) rs1) (hb : Ev K rs1 tb ds (.int j) rs2) (hc : Ev K rs2 tc ds (.int k) rs3) (hd : Ev K rs3 td ds (.int l) rs4) :
    Ev K rs (tCB rMin4 (tCons ta (tCons tb (tCons tc (tCons td tNil))))) ds (.int (M.mn (M.mn (M.mn i j) k) l)) rs4 := cb (cons_ ha (cons_ hb (cons_ hc (cons_ hd nil_)))) fun xs F H dx o Q q => by
  obtain ⟨v1, r1, rfl, g1, v2, r2, rfl, g2, v3, r3, rfl, g3, v4, r4, rfl, g4, rfl⟩ := dx
  rw [show v1 = _ from g1, show v2 = _ from g2, show v3 = _ from g3, show v4 = _ from g4]
  exact ⟨i, j, k, l, rfl, q _ F H (Sub.refl F) rfl o⟩
end Lg

/-! What the defs over ends and piles promise. -/
namespace M
/-- lists that are not too long for the model's own limits -/
structure Sz (e : EndS) : Prop where
  out : e.out.length ≤ 1000
  reset : ∀ s, e.reset = some s → s.data.length ≤ 1000
end M
namespace Lg
open PySem PySem.Spec PyProof.Rows L2 Wr M
abbrev RelE := EndS → List Da → EndS → Da → Prop
abbrev RelQ := PileS → List Da → PileS → Da → Prop
def R_outstanding : RelE := fun e a e' d => a = [] ∧ e' = e ∧ d = .int (E.outstanding e)
def R_unsent : RelE := fun e a e' d => a = [] ∧ e' = e ∧ d = .int (E.unsent e)
def R_start : RelE := fun e a e' d => ∃ now, a = [.int now] ∧ e' = start e now ∧ d = .non
def R_shut : RelE := fun e a e' d => ∃ why, a = [.str (etx why)] ∧ e' = shut e why ∧ d = .non
def R_state : RelE := fun e a e' d => a = [] ∧ e' = e ∧ d = .str (stx e.state)
def R_error : RelE := fun e a e' d => a = [] ∧ e' = e ∧ d = .str (etx e.error)
def R_made : RelE := fun e a e' d => ∃ n fl data, a = [.int n, .int fl, li data] ∧ data.length ≤ 1000 ∧ e' = e ∧ d = li (E.made e n fl data)
def R_syn_made : RelE := fun e a e' d => a = [] ∧ e' = e ∧ d = li (E.syn_made e)
def R_again : RelE := fun e a e' d => ∃ now, a = [.int now] ∧ Sz e ∧ e' = (E.again e now).1 ∧ d = li (E.again e now).2
def R_syn_goes : RelE := fun e a e' d => ∃ now, a = [.int now] ∧ e' = (E.syn_goes e now).1 ∧ d = li (E.syn_goes e now).2
def R_gone : RelE := fun e a e' d => ∃ now many, a = [.int now, .int many] ∧ e' = E.gone e now many ∧ d = .non
def R_data_goes : RelE := fun e a e' d => ∃ now many, a = [.int now, .int many] ∧ Sz e ∧ e' = (E.data_goes e now many).1 ∧ d = li (E.data_goes e now many).2
def R_fin_goes : RelE := fun e a e' d => ∃ now, a = [.int now] ∧ e' = (E.fin_goes e now).1 ∧ d = li (E.fin_goes e now).2
def R_has_more : RelE := fun e a e' d => a = [] ∧ e' = e ∧ d = .bl (E.has_more e)
def R_probe : RelE := fun e a e' d => ∃ now, a = [.int now] ∧ Sz e ∧ e' = (E.probe e now).1 ∧ d = li (E.probe e now).2
def R_answer_goes : RelE := fun e a e' d => a = [] ∧ e' = (E.answer_goes e).1 ∧ d = li (E.answer_goes e).2
def R_new_goes : RelE := fun e a e' d => ∃ now, a = [.int now] ∧ Sz e ∧ e' = (E.new_goes e now).1 ∧ d = li (E.new_goes e now).2
def R_send : RelE := fun e a e' d => ∃ now, a = [.int now] ∧ Sz e ∧ e' = (E.send e now).1 ∧ d = li (E.send e now).2
def R_write : RelE := fun e a e' d => ∃ row, a = [li row] ∧ row.length ≤ 1000 ∧ Sz e ∧ e' = (E.write e row).1 ∧ d = .int (E.write e row).2
def R_read : RelE := fun e a e' d => ∃ many, a = [.int many] ∧ e' = (E.read e many).1 ∧ d = li (E.read e many).2
def R_close : RelE := fun e a e' d => a = [] ∧ e' = (E.close e).1 ∧ d = .bl (E.close e).2
def R_abort : RelE := fun e a e' d => a = [] ∧ e' = (E.abort e).1 ∧ d = .bl (E.abort e).2
def R_reset_for : RelE := fun e a e' d => ∃ s, a = [sg s] ∧ e' = E.reset_for e s ∧ d = .non
def R_hear_window : RelE := fun e a e' d => ∃ s, a = [sg s] ∧ e' = E.hear_window e s ∧ d = .non
def R_hear_syn : RelE := fun e a e' d => ∃ s, a = [sg s] ∧ e' = E.hear_syn e s ∧ d = .non
def R_at_closed : RelE := fun e a e' d => ∃ s, a = [sg s] ∧ e' = E.at_closed e s ∧ d = .non
def R_at_listen : RelE := fun e a e' d => ∃ s, a = [sg s] ∧ e' = E.at_listen e s ∧ d = .non
def R_at_syn_sent : RelE := fun e a e' d => ∃ s now, a = [sg s, .int now] ∧ e' = E.at_syn_sent e s now ∧ d = .non
def R_fits : RelE := fun e a e' d => ∃ s, a = [sg s] ∧ e' = e ∧ d = .bl (E.fits e s)
def R_out_of_place : RelE := fun e a e' d => ∃ s now, a = [sg s, .int now] ∧ e' = E.out_of_place e s now ∧ d = .non
def R_reset_comes : RelE := fun e a e' d => ∃ s, a = [sg s] ∧ e' = E.reset_comes e s ∧ d = .non
def R_first_answer : RelE := fun e a e' d => ∃ s, a = [sg s] ∧ e' = (E.first_answer e s).1 ∧ d = .bl (E.first_answer e s).2
def R_window_comes : RelE := fun e a e' d => ∃ s g, a = [sg s, .bl g] ∧ e' = E.window_comes e s g ∧ d = .non
def R_all_heard : RelE := fun e a e' d => ∃ now, a = [.int now] ∧ e' = E.all_heard e now ∧ d = .non
def R_answer_comes : RelE := fun e a e' d => ∃ s now, a = [sg s, .int now] ∧ e' = (E.answer_comes e s now).1 ∧ d = .bl (E.answer_comes e s now).2
def PSz (q : PileS) : Prop := q.held.length + q.early.length ≤ 10000
def R_data_comes : RelE := fun e a e' d => ∃ s now, a = [sg s, .int now] ∧ PSz e.pile ∧ s.data.length ≤ 1000 ∧ e' = E.data_comes e s now ∧ d = .non
def R_at_others : RelE := fun e a e' d => ∃ s now, a = [sg s, .int now] ∧ PSz e.pile ∧ s.data.length ≤ 1000 ∧ e' = E.at_others e s now ∧ d = .non
def R_arrive_segment : RelE := fun e a e' d => ∃ s now, a = [sg s, .int now] ∧ PSz e.pile ∧ s.data.length ≤ 1000 ∧ e' = (E.arrive_segment e s now).1 ∧ d = .bl (E.arrive_segment e s now).2
def R_arrive : RelE := fun e a e' d => ∃ row now, a = [li row, .int now] ∧ row.length ≤ 900 ∧ PSz e.pile ∧ e' = (E.arrive e row now).1 ∧ d = .bl (E.arrive e row now).2
/-! piles -/
def Q_room : RelQ := fun q a q' d => a = [] ∧ q' = q ∧ d = .int (room q)
def Q_keep : RelQ := fun q a q' d => ∃ far data, a = [.int far, ti data] ∧ q.early.length ≤ 20000 ∧ data.length ≤ 1000 ∧ q' = keep q far data ∧ d = .non
def Q_keep_end : RelQ := fun q a q' d => ∃ far, a = [.int far] ∧ q' = keep_end q far ∧ d = .non
def Q_settle : RelQ := fun q a q' d => a = [] ∧ q.held.length + q.early.length ≤ 30000 ∧ q' = (settle q).1 ∧ d = .int (settle q).2
def Q_is_over : RelQ := fun q a q' d => a = [] ∧ q' = q ∧ d = .bl (is_over q)
def Q_taken : RelQ := fun q a q' d => ∃ many, a = [.int many] ∧ q' = (taken q many).1 ∧ d = li (taken q many).2
def i_pile (K : PySem.W.Frag) (l : List Da) (rs : List Rs) (d : Da) (rs' : List Rs) : Prop := ∃ x r, l = [.ref x] ∧ rs = rawR K x (cP K) [] :: r ∧ d = .non ∧ rs' = pileR K x Pile0 :: r
def i_end (K : PySem.W.Frag) (l : List Da) (rs : List Rs) (d : Da) (rs' : List Rs) : Prop := ∃ x a b c act r, l = [.ref x, .int a, .int b, .int c, .bl act] ∧ rs = rawR K x (cE K) [] :: r ∧ d = .non ∧ rs' = endR K x (opened a b c act) :: r
def e_opened (K : PySem.W.Frag) (l : List Da) (rs : List Rs) (f : Addr → Da) (g : Addr → List Rs) : Prop := ∃ a b c act, l = [.int a, .int b, .int c, .bl act] ∧ f = (fun p => .ref p) ∧ g = fun p => endR K p (opened a b c act) :: rs
section
variable {K : PySem.W.Frag} {F0 F H : Hp} {D : Ends} {ds : List (Option Da)} {rs rs1 rs2 : List Rs} {te : TE} {tz t : TS} {p pp : Addr} {f : Addr → Da}
theorem g_conv (h : ∀ F H, Ow F rs H → Ow F rs1 H) (k : G K F0 t D ds rs1) : G K F0 t D ds rs := fun σ F H s vs o => k σ F H s vs (h F H o)
theorem evX_swap {r1 : Addr → Rs} {r2 : Rs} {g : Addr → List Rs} (h : EvX K rs te ds f (fun a => r1 a :: r2 :: g a)) : EvX K rs te ds f (fun a => r2 :: r1 a :: g a) := fun σ F H vs o Q k =>
  h σ F H vs o Q fun p v F1 H1 s1 dv o1 => k p v F1 H1 s1 dv (ow_swap o1)
theorem pile_of_raw {hl el : Addr} (o : Ow F (rawR K p (cP K) (putD "last" .non (putD "early" (.ref el) (putD "come" (.int 0) (putD "held" (.ref hl) [])))) :: dk K el [] :: ol K hl [] :: rs) H) : Ow F (pileR K p Pile0 :: rs) H := by
  have e : putD "last" .non (putD "early" (.ref el) (putD "come" (.int 0) (putD "held" (.ref hl) []))) = ([("held", .ref hl), ("come", .int 0), ("early", .ref el), ("last", Da.non)] : List (Str × Da)) := by kernel_rfl
  rw [e] at o
  obtain ⟨dx, ws, h1, o2⟩ := raw_out o
  obtain ⟨v1, r1, rfl, g1, v2, r2, rfl, g2, v3, r3, rfl, g3, v4, r4, rfl, g4, g5⟩ := h1
  rw [show v1 = _ from g1, show v2 = _ from g2, show v3 = _ from g3, show v4 = _ from g4, show r4 = _ from g5] at o2
  have o3 : Ow F (ckR (pt p (.ins (cP K) dx (pflds Pile0 hl el))) :: dk K el [] :: ol K hl [] :: rs) H := own_swap o2
  have o4 := ow_in (fun _ _ o => ow_swap o) o3
  have o5 := ow_swap o4
  obtain ⟨xs, hx, o6⟩ := ol_out o5
  rw [show xs = _ from hx] at o6
  have o7 : Ow F (ckR (pt hl (.lst [])) :: ckR (pt p (.ins (cP K) dx (pflds Pile0 hl el))) :: dk K el [] :: rs) H := own_swap o6
  exact pile_close (q := Pile0) (dx := dx) (hl := hl) (el := el) (ow_swap o7)
abbrev efl (a b c : Int) (act : Bool) (pp : Addr) : List (Str × Da) :=
  [("ours", .int a), ("theirs", .int b), ("first", .int c), ("state", .str (stx (if act = true then .synSent else .listen))), ("una", .int c), ("nxt", .int c), ("synced", .bl false), ("rcv", .int 0), ("wnd", .int 0), ("told", .int 0), ("told_by", .int 0), ("most", .int 12),
   ("out", li []), ("pile", .ref pp), ("fin", .bl false), ("fin_gone", .bl false), ("reset", .non), ("owes_syn", .bl false), ("owes_answer", .bl false), ("since", .int 0), ("wait", .int 1000), ("tries", .int 0), ("probing", .bl false), ("error", .str (etx .none))]
theorem end_of_raw {a b c : Int} {act : Bool} {fs : List (Str × Da)} (hf : fs = efl a b c act pp) (o : Ow F (rawR K p (cE K) fs :: pileR K pp Pile0 :: rs) H) : Ow F (endR K p (opened a b c act) :: rs) H := by
  rw [hf] at o
  obtain ⟨dx, ws, h1, o2⟩ := raw_out o
  obtain ⟨v1, r1, rfl, g1, v2, r2, rfl, g2, v3, r3, rfl, g3, v4, r4, rfl, g4, v5, r5, rfl, g5, v6, r6, rfl, g6, v7, r7, rfl, g7, v8, r8, rfl, g8, v9, r9, rfl, g9, v10, r10, rfl, g10, v11, r11, rfl, g11, v12, r12, rfl, g12, v13, r13, rfl, g13, h1⟩ := h1
  obtain ⟨v14, r14, rfl, g14, v15, r15, rfl, g15, v16, r16, rfl, g16, v17, r17, rfl, g17, v18, r18, rfl, g18, v19, r19, rfl, g19, v20, r20, rfl, g20, v21, r21, rfl, g21, v22, r22, rfl, g22, v23, r23, rfl, g23, v24, r24, rfl, g24, g25⟩ := h1
  obtain ⟨ol, rfl, hol⟩ := dv_li g13
  rw [show v1 = _ from g1, show v2 = _ from g2, show v3 = _ from g3, show v4 = _ from g4, show v5 = _ from g5, show v6 = _ from g6, show v7 = _ from g7, show v8 = _ from g8, show v9 = _ from g9, show v10 = _ from g10, show v11 = _ from g11, show v12 = _ from g12,
    show v14 = _ from g14, show v15 = _ from g15, show v16 = _ from g16, show v18 = _ from g18, show v19 = _ from g19, show v20 = _ from g20, show v21 = _ from g21, show v22 = _ from g22, show v23 = _ from g23, show v24 = _ from g24, show r24 = _ from g25] at o2
  exact end_close (pp := pp) (e := opened a b c act) (rec_mk (e := opened a b c act) (dx := dx) (ol := ol) (rv := v17) hol g17 o2)
end
/-! ### methods -/
section
variable {P : Program} {w : World} {K : PySem.W.Frag} {mg : Str → Option Value} {base : Heap} {fa : List He.Fa} {fn : List He.DefD} {ex : PySem.W.Frag → Bool}
theorem ok_mkG {c : Str × Option Str} {x qual : Str} {N ps : List Str} {k : Nat} {R : List Da → List Rs → Da → List Rs → Prop} {ar : Arguments} {bo : List Stmt} {sc : Scope} (T : Tx fa fn ex w K mg) (i : Nat) (hi : fn[i]? = some ⟨c, x, qual, ar, bo, sc, [], []⟩) (S : FnScope N ps sc)
    (hb : ∀ (kV doc pm : Value) (an : Option Addr) (cdv ct : Value) (us : List Value), us.length = ps.length → bindArgs (PySem.W.fnOf x qual ar bo sc .none kV doc pm an cdv ct) ⟨us, []⟩ = pure (ps.zip us))
    (len : ∀ l rs d rs', R l rs d rs' → l.length = ps.length)
    (hbody : ∀ (f : Addr) (cdv : Value) (A : Around) (outer : List Env) (s : Shared) (H : Hp) (E : XK), Room k (A.deeper (envOfC qual sc s.heap.objs.size f cdv)) →
      ∃ t, PSs (cxOf CX0 P w K mg base N qual sc f cdv A outer s H E).nox bo t ∧ ∀ (F : Hp) (l : List Da) (rs : List Rs) (d : Da) (rs' : List Rs) (Q : VK), R l rs d rs' → (∀ v F' H', Sub F F' → Dv K F' d v → Ow F' rs' H' → Q v H') →
        G K F t { nx := fun _ H' => Q .non H', rt := Q } (locs l N.length) rs) : ∃ fd : FuncData, FnOk P w K mg base CX0 (k + 1) (He.fAd K c) fd ps (SpG K R) ∧ Binds K fd ps [] := by
  obtain ⟨fd, F⟩ := T.says.def_ i hi
  refine ⟨fd, ?_, F.bindsN hb⟩
  refine F.ok S (fun vs H Q E h => ?_) fun cdv A outer s H vs Q E hr h => ?_
  · obtain ⟨F, l, rs, d, rs', dw, _, hR, _⟩ := h
    rw [dvAll_len dw]; exact len _ _ _ _ hR
  · obtain ⟨F, l, rs, d, rs', dw, o, hR, kk⟩ := h
    obtain ⟨t, h1, h2⟩ := hbody _ cdv A outer s H E hr
    exact ⟨t, h1.nox, h2 F l rs d rs' Q hR kk _ F H (Sub.refl F) (vs_start dw) o⟩
theorem met_of {C : Addr} {m : Str} {k : Nat} {ps : List Str} {sp : Sp} (c : Cls K C) (me : Meth K C m (He.ma K C m)) (h : ∃ fd : FuncData, FnOk P w K mg base CX0 k (He.ma K C m) fd ps sp ∧ Binds K fd ps []) : C8.Met P w K mg base k C m sp [] := by
  obtain ⟨fd, h1, h2⟩ := h
  exact ⟨_, fd, ps, [], c, me, h1, h2, .nil⟩
theorem mak_of {x : Str} {k : Nat} {ps : List Str} {sp : Sp} (M : Mk K (He.ga K x) (He.ma K (He.ga K x) "__init__")) (hm : mg x = some (.ref (He.ga K x))) (h : ∃ fd : FuncData, FnOk P w K mg base CX0 k (He.ma K (He.ga K x) "__init__") fd ps sp ∧ Binds K fd ps []) : C8.Mak P w K mg base k x (He.ga K x) sp [] := by
  obtain ⟨fd, h1, h2⟩ := h
  exact ⟨_, fd, ps, [], M, h1, hm, h2, .nil⟩
theorem pe_mk0 {X : Cx} {k j : Nat} {C : Addr} {x : Str} {sp : Sp} {p pos : Pos} (c : C8.Mak X.prog X.w X.K X.mg X.base k x C sp []) (hr : Room j X.A) (hk : k + 1 ≤ j) (hg : Gl X x := by rfl) (hdb : (x == ("__debug__" : Str)) = false := by decide) :
    PE X (.Call (.Name x p) [] [] pos) (tMake C sp [] E0 tNil) := by
  obtain ⟨f, fd, ps, ds, M, F, hm, b, d⟩ := c.ex
  exact pe_make0 M F (hr.mono hk) hg hm b d pass0 hdb
end
end Lg
namespace Lg
open PySem
theorem putD_b {f : Str} {d : Da} : ∀ {l : List (Str × Da)} {n : Nat}, l.length ≤ n → (putD f d l).length ≤ n + 1
  | [], n, _ => Nat.succ_le_succ (Nat.zero_le n)
  | (g, x) :: r, n, h => by
    show (if g = f then (g, d) :: r else (g, x) :: putD f d r).length ≤ n + 1
    simp only [List.length_cons] at h
    split
    · simp only [List.length_cons]; omega
    · have := putD_b (f := f) (d := d) (l := r) (n := n - 1) (by omega)
      simp only [List.length_cons]
      omega
end Lg

namespace M
theorem gone_out (e : EndS) (now many : Int) : (E.gone e now many).out = e.out ∧ (E.gone e now many).reset = e.reset ∧ (E.gone e now many).pile = e.pile := by
  unfold E.gone
  split <;> exact ⟨rfl, rfl, rfl⟩
theorem new_goes_out (e : EndS) (now : Int) : (E.new_goes e now).1.out = e.out ∧ (E.new_goes e now).1.reset = e.reset ∧ (E.new_goes e now).1.pile = e.pile := by
  unfold E.new_goes
  split
  · split
    · exact gone_out e now (E.many_new e)
    · exact ⟨rfl, rfl, rfl⟩
  · split
    · exact gone_out { e with fin_gone := true } now 1
    · exact ⟨rfl, rfl, rfl⟩
theorem sz_new {e : EndS} {now : Int} (h : Sz e) : Sz (E.new_goes e now).1 := by
  obtain ⟨h1, h2, _⟩ := new_goes_out e now
  exact ⟨by rw [h1]; exact h.out, by rw [h2]; exact h.reset⟩
theorem send_some {e : EndS} {now : Int} {s : Seg} (h : e.reset = some s) : E.send e now = ({ e with reset := none }, put s) := by unfold E.send; rw [h]
theorem send_none {e : EndS} {now : Int} (h : e.reset = none) : E.send e now = if (decide (e.state = .timeWait) && decide (120000 ≤ now - e.since)) = true then E.send2 (shut e e.error) now else E.send2 e now := by unfold E.send; rw [h]
theorem some_of {α : Type} {o : Option α} (h : (!o.isNone) = true) : ∃ s, o = some s := by
  cases o with
  | none => cases h
  | some s => exact ⟨s, rfl⟩
theorem none_of {α : Type} {o : Option α} (h : (!o.isNone) = false) : o = none := by
  cases o with
  | none => rfl
  | some s => cases h
end M

namespace Lg
open PySem PySem.Spec PyProof.Rows L2 Wr
section
variable {K : PySem.W.Frag} {F0 : Hp} {D : Ends} {ds : List (Option Da)} {rs rs1 : List Rs} {tt tt2 : TT} {tw tv tz : TS} {b : Bool}
/-- if t or u: .., where t is false and does something -/
theorem g_or (h : EvT K rs tt ds b rs1) (hb : b = false) (k : G K F0 (tSeq (tIfS tt2 tw tv) tz) D ds rs1) : G K F0 (tSeq (tIfS (tOr tt tt2) tw tv) tz) D ds rs := fun σ F H s vs o =>
  h σ F H vs o _ fun F1 H1 s1 o1 => by
    rw [hb]
    show (if false = true then _ else _)
    rw [if_neg Bool.false_ne_true]
    exact k σ F1 H1 (s.trans s1) (vs.mono s1) o1
theorem g_or1 (h : EvT K rs tt ds b rs1) (hb : b = false) (k : G K F0 (tIfS tt2 tw tv) D ds rs1) : G K F0 (tIfS (tOr tt tt2) tw tv) D ds rs := fun σ F H s vs o =>
  h σ F H vs o _ fun F1 H1 s1 o1 => by
    rw [hb]
    show (if false = true then _ else _)
    rw [if_neg Bool.false_ne_true]
    exact k σ F1 H1 (s.trans s1) (vs.mono s1) o1
theorem g_no1 (h : EvT K rs tt ds b rs1) (hb : b = false) (k : G K F0 tNext D ds rs1) : G K F0 (tIfS tt tw tNext) D ds rs := g_if1 h (fun e => by rw [hb] at e; cases e) fun _ => k
end
end Lg
namespace M
theorem plus_range (a b : Int) : 0 ≤ plus a b ∧ plus a b < 4294967296 := ⟨Int.emod_nonneg _ (by decide), Int.emod_lt_of_pos _ (by decide)⟩
theorem offset_one {f : Int} (h : 0 ≤ f ∧ f ≤ 4294967295) : offset (plus f 1) f = 1 := by
  unfold offset plus
  have e : (f + 1) % 4294967296 - f = 1 ∨ (f + 1) % 4294967296 - f = 1 - 4294967296 := by omega
  rcases e with e | e <;> rw [e] <;> rfl
theorem plus_ne {f : Int} (h : 0 ≤ f ∧ f ≤ 4294967295) : ¬ plus f 1 = f := by unfold plus; omega
/-- an end that calls, its syn out -/
def called (a b f since w : Int) (k : Int) : EndS := { opened a b f true with nxt := plus f 1, since := since, wait := w, tries := k }
def synB (a b f : Int) : List Int := put ⟨a, b, f, 0, 2, 64, 16, []⟩
theorem send_first (a b f now : Int) : E.send (opened a b f true) now = (called a b f now 1000 0, synB a b f) := by
  rw [send_none rfl, if_neg (by show ¬ (false && _) = true; simp)]
  unfold E.send2
  rw [if_neg (by show ¬ false = true; simp), if_neg, if_pos (by rfl), if_pos]
  · show E.syn_goes _ _ = _
    unfold E.syn_goes
    rw [if_pos (by show decide (f = f) = true; simp)]
    rfl
  · show (decide (f = f) || false) = true; simp
  · show ¬ (decide (0 < offset f f) && _) = true
    have : offset f f = 0 := by unfold offset; simp
    rw [this]; simp
theorem send_wait {a b f since w k now : Int} (hf : 0 ≤ f ∧ f ≤ 4294967295) (h : now - since < w) : E.send (called a b f since w k) now = (called a b f since w k, []) := by
  rw [send_none rfl, if_neg (by show ¬ (false && _) = true; simp)]
  unfold E.send2
  rw [if_neg (by show ¬ false = true; simp), if_neg, if_pos (by rfl), if_neg]
  · show E.answer_goes _ = _
    unfold E.answer_goes
    rw [if_pos (by rfl)]
  · show ¬ (decide (plus f 1 = f) || false) = true
    rw [decide_eq_false (plus_ne hf)]; simp
  · show ¬ (_ && decide (w ≤ now - since)) = true
    rw [decide_eq_false (show ¬ w ≤ now - since by omega)]; simp
theorem send_again {a b f since w k now : Int} (hf : 0 ≤ f ∧ f ≤ 4294967295) (h : w ≤ now - since) (hk : k ≠ 6) : E.send (called a b f since w k) now = (called a b f now (mn (2 * w) 16000) (k + 1), synB a b f) := by
  rw [send_none rfl, if_neg (by show ¬ (false && _) = true; simp)]
  unfold E.send2
  rw [if_neg (by show ¬ false = true; simp), if_pos]
  · show E.again _ _ = _
    unfold E.again
    rw [if_neg (by show ¬ decide (k = 6) = true; simpa using hk)]
    rfl
  · show (decide (0 < offset (plus f 1) f) && decide (w ≤ now - since)) = true
    rw [offset_one hf, decide_eq_true h]; rfl
theorem send_up {a b f since w now : Int} (hf : 0 ≤ f ∧ f ≤ 4294967295) (h : w ≤ now - since) : E.send (called a b f since w 6) now = (shut (called a b f since w 6) .time, []) := by
  rw [send_none rfl, if_neg (by show ¬ (false && _) = true; simp)]
  unfold E.send2
  rw [if_neg (by show ¬ false = true; simp), if_pos]
  · rfl
  · show (decide (0 < offset (plus f 1) f) && decide (w ≤ now - since)) = true
    rw [offset_one hf, decide_eq_true h]; rfl
theorem send_shut {e : EndS} {now : Int} (hr : e.reset = none) (hs : e.state = .closed) : E.send e now = (e, []) := by
  rw [send_none hr, if_neg (by rw [hs]; simp)]
  unfold E.send2
  rw [if_pos (by rw [hs]; rfl)]
/-- the waits -/
def wt : Nat → Int
  | 0 => 1000
  | i + 1 => mn (2 * wt i) 16000
theorem wt_pos : ∀ i, 1 ≤ wt i ∧ wt i ≤ 16000
  | 0 => ⟨by decide, by decide⟩
  | i + 1 => by
    have h := wt_pos i
    show 1 ≤ mn (2 * wt i) 16000 ∧ mn (2 * wt i) 16000 ≤ 16000
    unfold mn
    split <;> omega
theorem sz_called (a b f since w k : Int) : Sz (called a b f since w k) := ⟨Nat.zero_le _, fun s h => nomatch h⟩
theorem sz_opened (a b f : Int) (act : Bool) : Sz (opened a b f act) := ⟨Nat.zero_le _, fun s h => nomatch h⟩
end M

namespace M
theorem addK_len (l : List (Int × Int)) (k v : Int) : (addK l k v).length ≤ l.length + 1 := by
  unfold addK
  split
  · omega
  · rw [List.length_append]; exact Nat.le_refl _
section
variable {q t : PileS} {far m : Int} {data : List Int} {i : Nat}
theorem keepN_yes (h : (decide (0 ≤ far + (i : Int)) && decide (far + (i : Int) < room q)) = true) : keepN q far data (i + 1) = { keepN q far data i with early := addK (keepN q far data i).early ((keepN q far data i).come + far + (i : Int)) (data.getD i 0) } := if_pos h
theorem keepN_no (h : (decide (0 ≤ far + (i : Int)) && decide (far + (i : Int) < room q)) = false) : keepN q far data (i + 1) = keepN q far data i := if_neg (fne h)
theorem keepN_len (q : PileS) (far : Int) (data : List Int) : ∀ i, (keepN q far data i).early.length ≤ q.early.length + i ∧ (keepN q far data i).held = q.held ∧ (keepN q far data i).come = q.come ∧ (keepN q far data i).last = q.last
  | 0 => ⟨Nat.le_refl _, rfl, rfl, rfl⟩
  | i + 1 => by
    obtain ⟨h1, h2, h3, h4⟩ := keepN_len q far data i
    cases h : (decide (0 ≤ far + (i : Int)) && decide (far + (i : Int) < room q)) with
    | true =>
      rw [keepN_yes h]
      have := addK_len (keepN q far data i).early ((keepN q far data i).come + far + (i : Int)) (data.getD i 0)
      exact ⟨by show (addK _ _ _).length ≤ _; omega, h2, h3, h4⟩
    | false => rw [keepN_no h]; exact ⟨by omega, h2, h3, h4⟩
theorem keep_end_same (q : PileS) (far : Int) : (keep_end q far).early = q.early ∧ (keep_end q far).held = q.held ∧ (keep_end q far).come = q.come := by
  unfold keep_end
  split <;> exact ⟨rfl, rfl, rfl⟩
theorem pz0 (h : Lg.PSz q) : q.held.length + q.early.length ≤ 30000 := Nat.le_trans h (by decide)
theorem pzk (h : Lg.PSz q) : q.early.length ≤ 20000 := by have : q.held.length + q.early.length ≤ 10000 := h; omega
theorem pz1 (h : Lg.PSz q) (hd : data.length ≤ 1000) : (keep q far data).held.length + (keep q far data).early.length ≤ 30000 := by
  obtain ⟨h1, h2, _⟩ := keepN_len q far data data.length
  have : q.held.length + q.early.length ≤ 10000 := h
  unfold keep
  rw [h2]
  omega
theorem pz2 (h : Lg.PSz q) : (keep_end q far).held.length + (keep_end q far).early.length ≤ 30000 := by
  obtain ⟨h1, h2, _⟩ := keep_end_same q far
  rw [h1, h2]
  exact pz0 h
theorem pz3 {far2 : Int} (h : Lg.PSz q) (hd : data.length ≤ 1000) : (keep_end (keep q far data) far2).held.length + (keep_end (keep q far data) far2).early.length ≤ 30000 := by
  obtain ⟨h1, h2, _⟩ := keep_end_same (keep q far data) far2
  rw [h1, h2]
  exact pz1 h hd
theorem getK_len {l : List (Int × Int)} {k b : Int} (h : getK l k = some b) : 1 ≤ l.length := by
  cases l with
  | nil => cases h
  | cons a l => simp only [List.length_cons]; omega
theorem settle_step (h : ((getK t.early t.come).isSome && !decide (some t.come = t.last)) = true) (hz : t.held.length + t.early.length ≤ 30000) :
    ∃ b, getK t.early t.come = some b ∧ settle1 t m = settle1 { held := t.held ++ [b], come := t.come + 1, early := delK t.early t.come, last := t.last } (m + 1) ∧ (delK t.early t.come).length < t.early.length ∧ (t.held ++ [b]).length + (delK t.early t.come).length ≤ 30000 := by
  obtain ⟨h1, h2⟩ := Bool.and_eq_true_iff.mp h
  obtain ⟨b, hb⟩ := Option.isSome_iff_exists.mp h1
  have hl := delK_lt h1
  refine ⟨b, hb, ?_, hl, by rw [List.length_append]; simp only [List.length_cons, List.length_nil]; omega⟩
  rw [settle1, dif_pos h1, if_neg (by intro z; rw [z] at h2; cases h2), hb]
  rfl
theorem settle_stop (h : ((getK t.early t.come).isSome && !decide (some t.come = t.last)) = false) : settle1 t m = (t, m) := by
  rw [settle1]
  by_cases h1 : (getK t.early t.come).isSome = true
  · rw [dif_pos h1]
    rw [h1, Bool.true_and] at h
    rw [if_pos (by cases z : decide (some t.come = t.last) with | true => rfl | false => rw [z] at h; cases h)]
  · rw [dif_neg h1]
end
theorem start_pile (e : EndS) (now : Int) : (start e now).pile = e.pile := rfl
theorem reset_pile (e : EndS) (s : Seg) : (E.reset_for e s).pile = e.pile := by unfold E.reset_for; split <;> rfl
theorem heard_pile (e : EndS) (now : Int) : (E.all_heard e now).pile = e.pile := by
  unfold E.all_heard
  split
  · rfl
  · split
    · rfl
    · split <;> rfl
theorem wc_pile (e : EndS) (s : Seg) (g : Bool) : (E.window_comes e s g).pile = e.pile := by
  unfold E.window_comes E.wc2
  split <;> split <;> rfl
theorem ac2_pile (e : EndS) (now : Int) : (E.ac2 e now).1.pile = e.pile := by
  unfold E.ac2 E.ac3
  split
  · exact heard_pile e now
  · rfl
theorem ac1_pile (e : EndS) (s : Seg) (g : Bool) (now : Int) : (E.ac1 e s g now).1.pile = e.pile := by
  unfold E.ac1
  split
  · rw [ac2_pile, wc_pile]
  · rw [ac2_pile]
theorem first_pile (e : EndS) (s : Seg) : (E.first_answer e s).1.pile = e.pile := by
  unfold E.first_answer
  split
  · exact reset_pile e s
  · rfl
theorem answer_pile (e : EndS) (s : Seg) (now : Int) : (E.answer_comes e s now).1.pile = e.pile := by
  unfold E.answer_comes
  split
  · exact first_pile e s
  · split
    · rfl
    · split
      · split
        · rw [ac1_pile]; rfl
        · rw [ac1_pile]
      · rw [ac1_pile]
end M
namespace Lg
open PySem PySem.Spec PyProof.Rows L2 Wr
section
variable {K : PySem.W.Frag} {F0 F H : Hp} {D : Ends} {ds : List (Option Da)} {rs rs0 rs1 rs2 : List Rs} {ta tb tc : TE} {pp : Addr} {q : M.PileS}
theorem ckCome {dx hl el : Addr} (E : EndF K) (ho : Ev K (ckR (pt pp (.ins (cP K) dx (pflds q hl el))) :: rs) ta ds (.ref pp) (ckR (pt pp (.ins (cP K) dx (pflds q hl el))) :: rs)) : Ev K (ckR (pt pp (.ins (cP K) dx (pflds q hl el))) :: rs) (tFld K ta "come") ds (.int q.come) (ckR (pt pp (.ins (cP K) dx (pflds q hl el))) :: rs) := fun σ F H vs o Q k =>
  ho σ F H vs o _ fun x F1 H1 s1 dx1 o1 => ⟨pp, cP K, dx, _, .int q.come, dx1, ow_at o1, E.cp, E.np _ (by simp), by kernel_rfl, k _ F1 H1 s1 rfl o1⟩
theorem p_setd1 {kk vv : Int} (E : EndF K) (ho : Ev K (pileR K pp q :: rs) ta ds (.ref pp) (pileR K pp q :: rs)) (hk : ∀ dx hl el, Ev K (ckR (pt pp (.ins (cP K) dx (pflds q hl el))) :: ckR (pt hl (.lst (q.held.map V.int))) :: ckR (pt el (.dK (kvE q.early))) :: rs) tb ds (.int kk) (ckR (pt pp (.ins (cP K) dx (pflds q hl el))) :: ckR (pt hl (.lst (q.held.map V.int))) :: ckR (pt el (.dK (kvE q.early))) :: rs))
    (hv : ∀ rs', Ev K rs' tc ds (.int vv) rs') (hz : q.early.length < 100000) (k : G K F0 tNext D ds (pileR K pp { q with early := M.addK q.early kk vv } :: rs)) : G K F0 (tDrop (tDSetd (tFld K ta "early") tb tc)) D ds (pileR K pp q :: rs) := p_setd (tz := tNext) E ho hk hv hz k
end
end Lg

namespace Lg
open PySem PySem.Spec PyProof.Rows L2 Wr
section
variable {K : PySem.W.Frag} {F0 : Hp} {D : Ends} {ds : List (Option Da)} {rs rs1 rs2 : List Rs} {ta tb : TE} {tz : TS} {b : Bool} {d : Da} {l : List Da} {tA : TA} {ii : Nat}
theorem andL (h : Ev K rs ta ds (.bl b) rs1) (hb : b = true) (k : Ev K rs1 tb ds d rs2) : Ev K rs (tAndV ta tb) ds d rs2 := fun σ F H vs o Q q => h σ F H vs o _ fun v F1 H1 s1 dx o1 => by
  refine ⟨b, dx, ?_⟩
  rw [if_pos hb]
  exact k σ F1 H1 (vs.mono s1) o1 Q fun v F2 H2 s2 => q v F2 H2 (s1.trans s2)
theorem orL (h : Ev K rs ta ds (.bl b) rs1) (hb : b = false) (k : Ev K rs1 tb ds d rs2) : Ev K rs (tOrV ta tb) ds d rs2 := fun σ F H vs o Q q => h σ F H vs o _ fun v F1 H1 s1 dx o1 => by
  refine ⟨b, dx, ?_⟩
  rw [if_neg (by rw [hb]; exact Bool.false_ne_true)]
  exact k σ F1 H1 (vs.mono s1) o1 Q fun v F2 H2 s2 => q v F2 H2 (s1.trans s2)
theorem orT (h : Ev K rs ta ds (.bl b) rs1) (hb : b = true) : Ev K rs (tOrV ta tb) ds (.bl true) rs1 := fun σ F H vs o Q q => h σ F H vs o _ fun v F1 H1 s1 dx o1 => by
  refine ⟨b, dx, ?_⟩
  rw [if_pos hb]
  exact q _ F1 H1 s1 rfl o1
theorem g_asgE1 {R : List Da → List Rs → (Addr → Da) → (Addr → List Rs) → Prop} {E : XK} {f : Addr → Da} {g : Addr → List Rs} (h : EvA K rs tA ds l rs1) (hR : R l rs1 f g) (k : ∀ p, G K F0 tNext D (ds.set ii (some (f p))) (g p)) :
    G K F0 (tAsg (tCall (SpE K R) [] E tA) (gName ii)) D ds rs := g_asgE (tz := tNext) h hR k
end
end Lg
namespace M
theorem arrive_put {s : Seg} (h : Ok s) (e : EndS) (now : Int) : E.arrive e (put s) now = E.arrive_segment e s now := by
  unfold E.arrive
  rw [if_pos (put_right h), getS_put h]
theorem close_new (a b c : Int) (act : Bool) : E.close (opened a b c act) = (shut (opened a b c act) .none, true) := by cases act <;> rfl
theorem abort_new (a b c : Int) (act : Bool) : E.abort (opened a b c act) = (shut (opened a b c act) .none, true) := by cases act <;> rfl
theorem abort_shut (e : EndS) (w : Er) : E.abort (shut e w) = (shut e w, false) := rfl
theorem close_shut (a b c : Int) (act : Bool) (w : Er) : E.close (shut (opened a b c act) w) = (shut (opened a b c act) w, false) := by cases act <;> rfl
structure Fin (e : EndS) (A : St) (D : List Int) : Prop where
  st : e.state = A
  er : e.error = .none
  one : (E.send e 100).2 = D
  two : (E.send (E.send e 100).1 100).2 = []
  sz : Sz e
theorem fin_quiet {e : EndS} (hr : e.reset = none) (hs : e.state = .closed ∨ e.state = .listen) (he : e.error = .none) (ho : e.out = []) : Fin e e.state [] := by
  have q : E.send e 100 = (e, []) := by
    rw [send_none hr]
    rcases hs with hs | hs
    · rw [if_neg (by rw [hs]; simp)]; unfold E.send2; rw [if_pos (by rw [hs]; rfl)]
    · rw [if_neg (by rw [hs]; simp)]; unfold E.send2; rw [if_pos (by rw [hs]; rfl)]
  exact ⟨rfl, he, by rw [q], by rw [q]; show (E.send e 100).2 = []; rw [q], ⟨by rw [ho]; exact Nat.zero_le _, fun s h => by rw [hr] at h; cases h⟩⟩
theorem fin_reset {e : EndS} {r : Seg} (hr : e.reset = none) (hs : e.state = .closed ∨ e.state = .listen) (he : e.error = .none) (ho : e.out = []) (hd : r.data = []) : Fin { e with reset := some r } e.state (put r) := by
  have q : E.send { e with reset := some r } 100 = ({ e with reset := none }, put r) := send_some rfl
  have f := fin_quiet (e := { e with reset := none }) rfl hs he ho
  refine ⟨rfl, he, by rw [q], by rw [q]; exact f.one, ⟨by show e.out.length ≤ _; rw [ho]; exact Nat.zero_le _, fun s h => ?_⟩⟩
  obtain rfl := Option.some.inj h
  rw [hd]; exact Nat.zero_le _
/-- what the segment leaves -/
theorem has_bit (s : Seg) (f : Int) : has s f = decide (s.flags / f % 2 = 1) := rfl
theorem k12_closed {s : Seg} {port x mine : Int} {act : Bool} (hp : s.goal = port) :
    (has s 4 = true → Fin (E.arrive_segment (shut (opened port x mine act) .none) s 100).1 .closed []) ∧
    (has s 4 = false → has s 16 = true → Fin (E.arrive_segment (shut (opened port x mine act) .none) s 100).1 .closed (put ⟨port, s.src, s.ans, 0, 4, 0, 0, []⟩)) ∧
    (has s 4 = false → has s 16 = false → Fin (E.arrive_segment (shut (opened port x mine act) .none) s 100).1 .closed (put ⟨port, s.src, 0, plus s.num (length s), 20, 0, 0, []⟩)) ∧
    (E.arrive_segment (shut (opened port x mine act) .none) s 100).2 = true := by
  have e1 : E.arrive_segment (shut (opened port x mine act) .none) s 100 = (E.at_closed (shut (opened port x mine act) .none) s, true) := by
    unfold E.arrive_segment
    rw [if_neg, if_pos (by rfl)]
    show ¬ (!decide (s.goal = port) || (!true && _)) = true
    rw [decide_eq_true hp]; simp
  rw [e1]
  refine ⟨fun h => ?_, fun h h2 => ?_, fun h h2 => ?_, rfl⟩
  · show Fin (E.at_closed _ s) _ _
    unfold E.at_closed
    rw [if_neg (by rw [h]; simp)]
    exact fin_quiet rfl (.inl rfl) rfl rfl
  · show Fin (E.at_closed _ s) _ _
    unfold E.at_closed E.reset_for
    rw [if_pos (by rw [h]; rfl), if_pos h2]
    exact fin_reset (e := shut (opened port x mine act) .none) rfl (.inl rfl) rfl rfl rfl
  · show Fin (E.at_closed _ s) _ _
    unfold E.at_closed E.reset_for
    rw [if_pos (by rw [h]; rfl), if_neg (by rw [h2]; simp)]
    exact fin_reset (e := shut (opened port x mine act) .none) rfl (.inl rfl) rfl rfl rfl
theorem k12_listen {s : Seg} {port x mine : Int} (hp : s.goal = port) (hm : 0 ≤ mine ∧ mine ≤ 4294967295) :
    (has s 4 = true → Fin (E.arrive_segment (opened port x mine false) s 100).1 .listen []) ∧
    (has s 4 = false → has s 16 = true → Fin (E.arrive_segment (opened port x mine false) s 100).1 .listen (put ⟨port, s.src, s.ans, 0, 4, 0, 0, []⟩)) ∧
    (has s 4 = false → has s 16 = false → has s 2 = true → Fin (E.arrive_segment (opened port x mine false) s 100).1 .synCome (put ⟨port, s.src, mine, plus s.num 1, 18, 64, 16, []⟩)) ∧
    (has s 4 = false → has s 16 = false → has s 2 = false → Fin (E.arrive_segment (opened port x mine false) s 100).1 .listen []) ∧
    (E.arrive_segment (opened port x mine false) s 100).2 = true := by
  have e1 : E.arrive_segment (opened port x mine false) s 100 = (E.at_listen (opened port x mine false) s, true) := by
    unfold E.arrive_segment
    rw [if_neg, if_neg (by show ¬ false = true; simp), if_pos (by rfl)]
    show ¬ (!decide (s.goal = port) || (!true && _)) = true
    rw [decide_eq_true hp]; simp
  rw [e1]
  refine ⟨fun h => ?_, fun h h2 => ?_, fun h h2 h3 => ?_, fun h h2 h3 => ?_, rfl⟩
  · show Fin (E.at_listen _ s) _ _
    unfold E.at_listen
    rw [if_pos h]
    exact fin_quiet rfl (.inr rfl) rfl rfl
  · show Fin (E.at_listen _ s) _ _
    unfold E.at_listen E.reset_for
    rw [if_neg (by rw [h]; simp), if_pos h2, if_pos h2]
    exact fin_reset (e := opened port x mine false) rfl (.inr rfl) rfl rfl rfl
  · show Fin (E.at_listen _ s) _ _
    unfold E.at_listen
    rw [if_neg (by rw [h]; simp), if_neg (by rw [h2]; simp), if_pos h3]
    generalize hx : E.hear_syn { opened port x mine false with theirs := s.src } s = e2
    have f : e2.ours = port ∧ e2.theirs = s.src ∧ e2.first = mine ∧ e2.nxt = mine ∧ e2.una = mine ∧ e2.reset = none ∧ e2.owes_syn = false ∧ e2.owes_answer = false ∧ e2.rcv = plus s.num 1 ∧ e2.error = .none ∧ e2.out = [] := by
      rw [← hx]; unfold E.hear_syn
      split <;> exact ⟨rfl, rfl, rfl, rfl, rfl, rfl, rfl, rfl, rfl, rfl, rfl⟩
    obtain ⟨f1, f2, f3, f4, f5, f6, f7, f8, f9, f10, f11⟩ := f
    have q : E.send { e2 with told_by := 0, state := .synCome } 100 = E.syn2 (start { e2 with told_by := 0, state := .synCome } 100) := by
      rw [send_none (e := { e2 with told_by := 0, state := .synCome }) f6, if_neg (by show ¬ (false && _) = true; simp)]
      unfold E.send2
      rw [if_neg (by show ¬ false = true; simp), if_neg, if_pos (by rfl), if_pos]
      · unfold E.syn_goes
        rw [if_pos]
        show decide (e2.nxt = e2.first) = true
        rw [f4, f3]; simp
      · show (decide (e2.nxt = e2.first) || _) = true
        rw [f4, f3]; simp
      · show ¬ (decide (0 < offset e2.nxt e2.una) && _) = true
        rw [f4, f5]
        have : offset mine mine = 0 := by unfold offset; simp
        rw [this]; simp
    refine ⟨rfl, f10, ?_, ?_, ⟨by show e2.out.length ≤ _; rw [f11]; exact Nat.zero_le _, fun t ht => by rw [show e2.reset = some t from ht] at f6; cases f6⟩⟩
    · rw [q]
      show put ⟨e2.ours, e2.theirs, e2.first, e2.rcv, 2 + 16, 64, 16, []⟩ = _
      rw [f1, f2, f3, f9]; rfl
    · rw [q]
      generalize hy : (E.syn2 (start { e2 with told_by := 0, state := .synCome } 100)).1 = e3
      have g : e3.reset = none ∧ e3.state = .synCome ∧ e3.nxt = plus mine 1 ∧ e3.una = mine ∧ e3.first = mine ∧ e3.owes_syn = false ∧ e3.owes_answer = false ∧ e3.since = 100 ∧ e3.wait = 1000 := by
        rw [← hy]
        exact ⟨f6, rfl, by show plus e2.first 1 = _; rw [f3], f5, f3, rfl, f8, rfl, rfl⟩
      obtain ⟨g1, g2, g3, g4, g5, g6, g7, g8, g9⟩ := g
      rw [send_none g1, if_neg (by rw [g2]; simp)]
      unfold E.send2
      rw [if_neg (by rw [g2]; show ¬ false = true; simp), if_neg (by rw [g8, g9]; simp), if_pos (by rw [g2]; rfl), if_neg (by rw [g3, g5, g6, decide_eq_false (plus_ne hm)]; simp)]
      unfold E.answer_goes
      rw [if_pos (by rw [g7]; rfl)]
  · show Fin (E.at_listen _ s) _ _
    unfold E.at_listen
    rw [if_neg (by rw [h]; simp), if_neg (by rw [h2]; simp), if_neg (by rw [h3]; simp)]
    exact fin_quiet rfl (.inr rfl) rfl rfl
theorem k12_other {e : EndS} {s : Seg} (hp : ¬ s.goal = e.ours) : E.arrive_segment e s 100 = (e, false) := by
  unfold E.arrive_segment
  rw [if_pos (by rw [decide_eq_false hp]; rfl)]
end M
namespace M
theorem k12_all {s : Seg} {port x mine : Int} {act b : Bool} {e : EndS} (hm : 0 ≤ mine ∧ mine ≤ 4294967295) (he : (b = true ∧ e = opened port x mine false) ∨ (b = false ∧ e = shut (opened port x mine act) .none)) :
    (E.arrive_segment e s 100).2 = decide (port = s.goal) ∧
    ((decide (port = s.goal) && (decide (s.flags / 4 % 2 = 0) && (has s 16 || !b))) = true → has s 16 = true → Fin (E.arrive_segment e s 100).1 (if b = true then .listen else .closed) (put ⟨port, s.src, s.ans, 0, 4, 0, 0, []⟩)) ∧
    ((decide (port = s.goal) && (decide (s.flags / 4 % 2 = 0) && (has s 16 || !b))) = true → has s 16 = false → Fin (E.arrive_segment e s 100).1 (if b = true then .listen else .closed) (put ⟨port, s.src, 0, plus s.num (length s), 20, 0, 0, []⟩)) ∧
    ((decide (port = s.goal) && (decide (s.flags / 4 % 2 = 0) && (has s 16 || !b))) = false → (decide (port = s.goal) && (b && (decide (s.flags / 2 % 2 = 1) && decide (s.flags / 4 % 2 = 0)))) = true → Fin (E.arrive_segment e s 100).1 .synCome (put ⟨port, s.src, mine, plus s.num 1, 18, 64, 16, []⟩)) ∧
    ((decide (port = s.goal) && (decide (s.flags / 4 % 2 = 0) && (has s 16 || !b))) = false → (decide (port = s.goal) && (b && (decide (s.flags / 2 % 2 = 1) && decide (s.flags / 4 % 2 = 0)))) = false → Fin (E.arrive_segment e s 100).1 (if b = true then .listen else .closed) []) := by
  have h4 : has s 4 = !decide (s.flags / 4 % 2 = 0) := by
    unfold has
    have : s.flags / 4 % 2 = 0 ∨ s.flags / 4 % 2 = 1 := by omega
    rcases this with z | z <;> rw [z] <;> rfl
  have h2 : has s 2 = decide (s.flags / 2 % 2 = 1) := rfl
  rw [← h2]
  have h4' : decide (s.flags / 4 % 2 = 0) = !has s 4 := by rw [h4, Bool.not_not]
  rw [h4']
  by_cases hp : port = s.goal
  · rw [decide_eq_true hp]
    simp only [Bool.true_and]
    rcases he with ⟨rfl, rfl⟩ | ⟨rfl, rfl⟩
    · obtain ⟨a1, a2, a3, a4, a5⟩ := k12_listen (s := s) (x := x) hp.symm hm
      refine ⟨a5, fun c1 c2 => ?_, fun c1 c2 => ?_, fun c1 c3 => ?_, fun c1 c3 => ?_⟩
      · simp at c1; exact a2 c1.1 c2
      · simp at c1; rw [c2] at c1; simp at c1
      · simp at c1 c3; exact a3 c3.2 (c1 c3.2) c3.1
      · simp only [if_true]
        cases g4 : has s 4 with
        | true => exact a1 g4
        | false =>
          simp [g4] at c1 c3
          exact a4 g4 c1 c3
    · obtain ⟨a1, a2, a3, a5⟩ := k12_closed (s := s) (x := x) (mine := mine) (act := act) hp.symm
      refine ⟨a5, fun c1 c2 => ?_, fun c1 c2 => ?_, fun c1 c3 => ?_, fun c1 c3 => ?_⟩
      · simp at c1; exact a2 c1 c2
      · simp at c1; exact a3 c1 c2
      · simp at c3
      · simp at c1; exact a1 c1
  · rw [decide_eq_false hp]
    simp only [Bool.false_and]
    have ho : ¬ s.goal = e.ours := by
      rcases he with ⟨_, rfl⟩ | ⟨_, rfl⟩
      · exact fun z => hp z.symm
      · exact fun z => hp z.symm
    rw [k12_other ho]
    refine ⟨rfl, fun c => absurd c Bool.false_ne_true, fun c => absurd c Bool.false_ne_true, fun _ c => absurd c Bool.false_ne_true, fun _ _ => ?_⟩
    rcases he with ⟨rfl, rfl⟩ | ⟨rfl, rfl⟩
    · exact fin_quiet rfl (.inr rfl) rfl rfl
    · exact fin_quiet rfl (.inl rfl) rfl rfl
end M
namespace M
theorem again_out (e : EndS) (now : Int) : (E.again e now).1.out = e.out ∧ (E.again e now).1.reset = e.reset ∧ (E.again e now).1.pile = e.pile := by
  unfold E.again
  split
  · exact ⟨rfl, rfl, rfl⟩
  · simp only
    split
    · exact ⟨rfl, rfl, rfl⟩
    · split <;> exact ⟨rfl, rfl, rfl⟩
theorem syn_out (e : EndS) (now : Int) : (E.syn_goes e now).1.out = e.out ∧ (E.syn_goes e now).1.reset = e.reset ∧ (E.syn_goes e now).1.pile = e.pile := by
  unfold E.syn_goes
  split <;> exact ⟨rfl, rfl, rfl⟩
theorem ans_out (e : EndS) : (E.answer_goes e).1.out = e.out ∧ (E.answer_goes e).1.reset = e.reset ∧ (E.answer_goes e).1.pile = e.pile := by
  unfold E.answer_goes
  split <;> exact ⟨rfl, rfl, rfl⟩
theorem probe_out (e : EndS) (now : Int) : (E.probe e now).1.out = e.out ∧ (E.probe e now).1.reset = e.reset ∧ (E.probe e now).1.pile = e.pile := by
  unfold E.probe
  split
  · exact ⟨rfl, rfl, rfl⟩
  · split
    · exact ⟨rfl, rfl, rfl⟩
    · split
      · exact ⟨rfl, rfl, rfl⟩
      · split
        · exact gone_out e now 1
        · exact gone_out { e with fin_gone := true } now 1
theorem send4_out (r : EndS × List Int) : (E.send4 r).1.out = r.1.out ∧ (E.send4 r).1.reset = r.1.reset ∧ (E.send4 r).1.pile = r.1.pile := by
  unfold E.send4
  split
  · exact ans_out r.1
  · exact ⟨rfl, rfl, rfl⟩
theorem send3_out (r : EndS × List Int) (now : Int) : (E.send3 r now).1.out = r.1.out ∧ (E.send3 r now).1.reset = r.1.reset ∧ (E.send3 r now).1.pile = r.1.pile := by
  unfold E.send3
  split
  · obtain ⟨a1, a2, a3⟩ := send4_out (E.probe r.1 now)
    obtain ⟨b1, b2, b3⟩ := probe_out r.1 now
    exact ⟨a1.trans b1, a2.trans b2, a3.trans b3⟩
  · exact send4_out r
theorem send2_out (e : EndS) (now : Int) : (E.send2 e now).1.out = e.out ∧ (E.send2 e now).1.reset = e.reset ∧ (E.send2 e now).1.pile = e.pile := by
  unfold E.send2
  split
  · exact ⟨rfl, rfl, rfl⟩
  · split
    · exact again_out e now
    · split
      · split
        · exact syn_out e now
        · exact ans_out e
      · obtain ⟨a1, a2, a3⟩ := send3_out (E.new_goes e now) now
        obtain ⟨b1, b2, b3⟩ := new_goes_out e now
        exact ⟨a1.trans b1, a2.trans b2, a3.trans b3⟩
theorem send_out (e : EndS) (now : Int) : (E.send e now).1.out = e.out ∧ ((E.send e now).1.reset = none) ∧ (E.send e now).1.pile = e.pile := by
  cases h : e.reset with
  | some s => rw [send_some h]; exact ⟨rfl, rfl, rfl⟩
  | none =>
    rw [send_none h]
    split
    · obtain ⟨a1, a2, a3⟩ := send2_out (shut e e.error) now
      exact ⟨a1, a2.trans h, a3⟩
    · obtain ⟨a1, a2, a3⟩ := send2_out e now
      exact ⟨a1, a2.trans h, a3⟩
theorem sz_send {e : EndS} {now : Int} (h : Sz e) : Sz (E.send e now).1 := by
  obtain ⟨h1, h2, _⟩ := send_out e now
  exact ⟨by rw [h1]; exact h.out, fun s hs => by rw [h2] at hs; cases hs⟩
end M

/-! What an end gives at once; ends that the laws open. -/
namespace M
/-! ### the rows that go at one time -/
def given (e : EndS) (now : Int) : Nat → EndS × List (Option Seg)
  | 0 => (e, [])
  | n + 1 => if decide ((E.send e now).2 = []) = true then ((E.send e now).1, []) else ((given (E.send e now).1 now n).1, lread (E.send e now).2 :: (given (E.send e now).1 now n).2)
theorem given_succ (e : EndS) (now : Int) (n : Nat) : given e now (n + 1) = if decide ((E.send e now).2 = []) = true then ((E.send e now).1, []) else ((given (E.send e now).1 now n).1, lread (E.send e now).2 :: (given (E.send e now).1 now n).2) := rfl
inductive Giv : EndS → Int → List Seg → EndS → Prop
  | nil {e e' : EndS} {now : Int} : E.send e now = (e', []) → Giv e now [] e'
  | cons {e e1 e' : EndS} {now : Int} {s : Seg} {l : List Seg} : E.send e now = (e1, put s) → Ok s → Giv e1 now l e' → Giv e now (s :: l) e'
theorem put_ne (s : Seg) : put s ≠ [] := fun h => by
  have := put_len s
  rw [h] at this
  simp only [List.length_nil] at this
  omega
theorem lread_put {s : Seg} (h : Ok s) : lread (put s) = some s := by rw [read_right (put_by h) (put_right h), getS_put h]
theorem given_of : ∀ {l : List Seg} {e e' : EndS} {now : Int} {n : Nat}, Giv e now l e' → l.length < n → given e now n = (e', l.map some)
  | [], e, e', now, n + 1, .nil h, _ => by
    unfold given
    rw [h, if_pos (by simp)]
    rfl
  | s :: l, e, e', now, n + 1, .cons h ok g, hl => by
    unfold given
    rw [h, if_neg (by simp [put_ne])]
    show ((given _ now n).1, lread (put s) :: (given _ now n).2) = _
    rw [given_of g (by simp only [List.length_cons] at hl; omega), lread_put ok]
    rfl
theorem putlen_le {s : Seg} (h : s.data.length ≤ 1000) : (put s).length ≤ 1024 := by
  rw [put_len]; split <;> omega
theorem put_small {s : Seg} (h : s.data.length ≤ 16) : (put s).length ≤ 900 := by
  rw [put_len]; split <;> omega
theorem sl_lenI (xs : List Int) (lo hi : Option Int) {n : Nat} (h : xs.length ≤ n) : (sl xs lo hi).length ≤ n := Nat.le_trans (sl_len _ _ _) h
theorem send_len {e : EndS} {now : Int} (z : Sz e) : (E.send e now).2.length ≤ 1024 := by
  have hm : ∀ (e : EndS) n f d, d.length ≤ 1000 → (E.made e n f d).length ≤ 1024 := fun e n f d h => putlen_le h
  have hs : ∀ e : EndS, (E.syn_made e).length ≤ 1024 := fun e => by
    unfold E.syn_made
    split <;> exact putlen_le (Nat.zero_le _)
  have ha : ∀ e : EndS, (E.answer_goes e).2.length ≤ 1024 := fun e => by
    unfold E.answer_goes
    split
    · exact Nat.zero_le _
    · exact hm _ _ _ _ (Nat.zero_le _)
  have hd : ∀ (e : EndS) m, e.out.length ≤ 1000 → (E.data_goes e now m).2.length ≤ 1024 := fun e m h => hm _ _ _ _ (sl_lenI _ _ _ h)
  have hf : ∀ (e : EndS), (E.fin_goes e now).2.length ≤ 1024 := fun e => hm _ _ _ _ (Nat.zero_le _)
  have hp : ∀ (e : EndS), e.out.length ≤ 1000 → (E.probe e now).2.length ≤ 1024 := fun e h => by
    unfold E.probe
    split
    · exact Nat.zero_le _
    · split
      · exact Nat.zero_le _
      · split
        · exact Nat.zero_le _
        · split
          · exact hd e 1 h
          · exact hf e
  have h4 : ∀ r : EndS × List Int, r.2.length ≤ 1024 → (E.send4 r).2.length ≤ 1024 := fun r h => by
    unfold E.send4
    split
    · exact ha _
    · exact h
  have h3 : ∀ r : EndS × List Int, r.1.out.length ≤ 1000 → r.2.length ≤ 1024 → (E.send3 r now).2.length ≤ 1024 := fun r h k => by
    unfold E.send3
    split
    · exact h4 _ (hp _ h)
    · exact h4 _ k
  have hn : ∀ e : EndS, e.out.length ≤ 1000 → (E.new_goes e now).2.length ≤ 1024 := fun e h => by
    unfold E.new_goes
    split
    · split
      · exact hd _ _ h
      · exact Nat.zero_le _
    · split
      · exact hf _
      · exact Nat.zero_le _
  have hg : ∀ e : EndS, e.out.length ≤ 1000 → (E.again e now).2.length ≤ 1024 := fun e h => by
    unfold E.again
    split
    · exact Nat.zero_le _
    · simp only
      split
      · exact hs _
      · split
        · exact hm _ _ _ _ (sl_lenI _ _ _ h)
        · exact hm _ _ _ _ (Nat.zero_le _)
  have h2 : ∀ e : EndS, e.out.length ≤ 1000 → (E.send2 e now).2.length ≤ 1024 := fun e h => by
    unfold E.send2
    split
    · exact Nat.zero_le _
    · split
      · exact hg _ h
      · split
        · split
          · unfold E.syn_goes
            split <;> exact hs _
          · exact ha _
        · exact h3 _ (by rw [(new_goes_out e now).1]; exact h) (hn _ h)
  cases h : e.reset with
  | some s => rw [send_some h]; exact putlen_le (z.reset s h)
  | none =>
    rw [send_none h]
    split
    · exact h2 _ z.out
    · exact h2 _ z.out
/-! ### sizes -/
def PN (q : PileS) : Nat := q.held.length + q.early.length
theorem keep_pn (q : PileS) (far : Int) (data : List Int) : PN (keep q far data) ≤ PN q + data.length := by
  obtain ⟨h1, h2, _⟩ := keepN_len q far data data.length
  unfold PN keep
  rw [h2]; omega
theorem keep_end_pn (q : PileS) (far : Int) : PN (keep_end q far) = PN q := by
  obtain ⟨h1, h2, _⟩ := keep_end_same q far
  unfold PN
  rw [h1, h2]
theorem settle1_pn : ∀ (n : Nat) (q : PileS) (m : Int), q.early.length ≤ n → PN (settle1 q m).1 ≤ PN q
  | 0, q, m, hn => by
    rw [settle1]
    rw [dif_neg (fun h => by
      have := getK_len (b := (getK q.early q.come).getD 0) (by cases z : getK q.early q.come with | none => rw [z] at h; cases h | some b => rfl)
      omega)]
    exact Nat.le_refl _
  | n + 1, q, m, hn => by
    rw [settle1]
    split
    case isTrue h =>
      have lt := delK_lt h
      split
      · exact Nat.le_refl _
      · refine Nat.le_trans (settle1_pn n _ _ (by show (delK q.early q.come).length ≤ n; omega)) ?_
        show (q.held ++ [_]).length + (delK q.early q.come).length ≤ q.held.length + q.early.length
        rw [List.length_append, List.length_singleton]; omega
    case isFalse => exact Nat.le_refl _
theorem settle_pn (q : PileS) : PN (settle q).1 ≤ PN q := settle1_pn _ q 0 (Nat.le_refl _)
theorem dc4_pile (e : EndS) (now : Int) : (E.dc4 e now).pile = e.pile := by
  unfold E.dc4; split
  · rfl
  · split <;> rfl
theorem dc3_pn (e : EndS) (now : Int) : PN (E.dc3 e now).pile ≤ PN e.pile := by
  unfold E.dc3; split
  · exact settle_pn e.pile
  · rw [dc4_pile]; exact settle_pn e.pile
theorem dc2_pn (e : EndS) (s : Seg) (far now : Int) : PN (E.dc2 e s far now).pile ≤ PN e.pile := by
  unfold E.dc2; split
  · refine Nat.le_trans (dc3_pn _ _) ?_
    show PN (keep_end e.pile _) ≤ _
    rw [keep_end_pn]; exact Nat.le_refl _
  · exact dc3_pn _ _
theorem data_pn (e : EndS) (s : Seg) (now : Int) : PN (E.data_comes e s now).pile ≤ PN e.pile + s.data.length := by
  unfold E.data_comes; split
  · exact Nat.le_trans (dc2_pn _ _ _ _) (keep_pn _ _ _)
  · exact Nat.le_trans (dc2_pn _ _ _ _) (Nat.le_add_right _ _)
theorem oop_pile (e : EndS) (s : Seg) (now : Int) : (E.out_of_place e s now).pile = e.pile := by
  unfold E.out_of_place E.oop2
  split
  · rfl
  · split <;> split <;> rfl
theorem rc_pile (e : EndS) (s : Seg) : (E.reset_comes e s).pile = e.pile := by
  unfold E.reset_comes; split
  · rfl
  · split <;> rfl
theorem others_pn (e : EndS) (s : Seg) (now : Int) : PN (E.at_others e s now).pile ≤ PN e.pile + s.data.length := by
  unfold E.at_others
  split
  · rw [oop_pile]; exact Nat.le_add_right _ _
  · split
    · rw [rc_pile]; exact Nat.le_add_right _ _
    · split
      · exact Nat.le_add_right _ _
      · split
        · split
          · split
            · refine Nat.le_trans (data_pn _ _ _) ?_
              rw [answer_pile]; exact Nat.le_refl _
            · rw [answer_pile]; exact Nat.le_add_right _ _
          · rw [answer_pile]; exact Nat.le_add_right _ _
        · exact Nat.le_add_right _ _
theorem hs_pile (e : EndS) (s : Seg) : (E.hear_syn e s).pile = e.pile := by
  unfold E.hear_syn; split <;> rfl
theorem ss_pile (e : EndS) (s : Seg) (now : Int) : (E.at_syn_sent e s now).pile = e.pile := by
  unfold E.at_syn_sent
  split
  · split
    · exact reset_pile e s
    · rfl
  · split
    · split <;> rfl
    · split
      · rfl
      · split
        · exact hs_pile e s
        · exact hs_pile e s
theorem arrive_pn (e : EndS) (s : Seg) (now : Int) : PN (E.arrive_segment e s now).1.pile ≤ PN e.pile + s.data.length := by
  unfold E.arrive_segment
  split
  · exact Nat.le_add_right _ _
  · split
    · show PN (E.at_closed e s).pile ≤ _
      unfold E.at_closed
      split
      · rw [reset_pile]; exact Nat.le_add_right _ _
      · exact Nat.le_add_right _ _
    · split
      · show PN (E.at_listen e s).pile ≤ _
        unfold E.at_listen
        split
        · exact Nat.le_add_right _ _
        · split
          · rw [reset_pile]; exact Nat.le_add_right _ _
          · split
            · show PN (E.hear_syn { e with theirs := s.src } s).pile ≤ _
              rw [hs_pile]; exact Nat.le_add_right _ _
            · exact Nat.le_add_right _ _
      · split
        · show PN (E.at_syn_sent e s now).pile ≤ _
          rw [ss_pile]; exact Nat.le_add_right _ _
        · exact others_pn e s now
/-- no more to be sent than before, no reset but a bare one -/
structure Sm (e e' : EndS) : Prop where
  out : e'.out.length ≤ e.out.length
  reset : e'.reset = e.reset ∨ ∃ s, e'.reset = some s ∧ s.data = []
theorem Sm.same {e e' : EndS} (h1 : e'.out = e.out) (h2 : e'.reset = e.reset) : Sm e e' := ⟨by rw [h1]; exact Nat.le_refl _, .inl h2⟩
theorem Sm.trans {e e1 e2 : EndS} (h : Sm e e1) (k : Sm e1 e2) : Sm e e2 := ⟨Nat.le_trans k.out h.out, by
  rcases k.reset with z | z
  · rw [z]; exact h.reset
  · exact .inr z⟩
theorem Sm.sz {e e' : EndS} (h : Sm e e') (z : Sz e) : Sz e' := ⟨Nat.le_trans h.out z.out, fun s hs => by
  rcases h.reset with q | ⟨t, q, d⟩
  · rw [q] at hs; exact z.reset s hs
  · rw [q] at hs; obtain rfl := Option.some.inj hs; rw [d]; exact Nat.zero_le _⟩
theorem rf_sm (e : EndS) (s : Seg) : Sm e (E.reset_for e s) := by
  unfold E.reset_for
  split <;> exact ⟨Nat.le_refl _, .inr ⟨_, rfl, rfl⟩⟩
theorem dc_sm (e : EndS) (s : Seg) (now : Int) : Sm e (E.data_comes e s now) := by
  have h4 : ∀ e : EndS, Sm e (E.dc4 e now) := fun e => by
    unfold E.dc4; split
    · exact .same rfl rfl
    · split <;> exact .same rfl rfl
  have h3 : ∀ e : EndS, Sm e (E.dc3 e now) := fun e => by
    unfold E.dc3; split
    · exact .same rfl rfl
    · exact Sm.trans (.same (by rfl) (by rfl)) (h4 _)
  have h2 : ∀ (e : EndS) far, Sm e (E.dc2 e s far now) := fun e far => by
    unfold E.dc2; split
    · exact Sm.trans (.same (by rfl) (by rfl)) (h3 _)
    · exact h3 _
  unfold E.data_comes; split
  · exact Sm.trans (.same (by rfl) (by rfl)) (h2 _ _)
  · exact h2 _ _
theorem ah_sm (e : EndS) (now : Int) : Sm e (E.all_heard e now) := by
  unfold E.all_heard; split
  · exact .same rfl rfl
  · split
    · exact .same rfl rfl
    · split <;> exact .same rfl rfl
theorem wc_sm (e : EndS) (s : Seg) (g : Bool) : Sm e (E.window_comes e s g) := by
  unfold E.window_comes E.wc2; split <;> split <;> exact .same rfl rfl
theorem ac2_sm (e : EndS) (now : Int) : Sm e (E.ac2 e now).1 := by
  unfold E.ac2 E.ac3; split
  · exact ah_sm e now
  · exact .same rfl rfl
theorem ac1_sm (e : EndS) (s : Seg) (g : Bool) (now : Int) : Sm e (E.ac1 e s g now).1 := by
  unfold E.ac1; split
  · exact (wc_sm e s g).trans (ac2_sm _ _)
  · exact ac2_sm _ _
theorem ans_sm (e : EndS) (s : Seg) (now : Int) : Sm e (E.answer_comes e s now).1 := by
  unfold E.answer_comes
  split
  · unfold E.first_answer
    split
    · exact rf_sm e s
    · exact .same rfl rfl
  · split
    · exact .same rfl rfl
    · split
      · split
        · exact Sm.trans ⟨sl_len _ _ _, .inl (by rfl)⟩ (ac1_sm _ _ _ _)
        · exact Sm.trans ⟨sl_len _ _ _, .inl (by rfl)⟩ (ac1_sm _ _ _ _)
      · exact ac1_sm _ _ _ _
theorem arrive_sm (e : EndS) (s : Seg) (now : Int) : Sm e (E.arrive_segment e s now).1 := by
  have hs : ∀ e : EndS, Sm e (E.hear_syn e s) := fun e => by unfold E.hear_syn; split <;> exact .same rfl rfl
  unfold E.arrive_segment
  split
  · exact .same rfl rfl
  · split
    · show Sm e (E.at_closed e s)
      unfold E.at_closed; split
      · exact rf_sm e s
      · exact .same rfl rfl
    · split
      · show Sm e (E.at_listen e s)
        unfold E.at_listen; split
        · exact .same rfl rfl
        · split
          · exact rf_sm e s
          · split
            · exact Sm.trans (.same (by rfl) (by rfl)) (Sm.trans (hs { e with theirs := s.src }) (.same (by rfl) (by rfl)))
            · exact .same rfl rfl
      · split
        · show Sm e (E.at_syn_sent e s now)
          unfold E.at_syn_sent; split
          · split
            · exact rf_sm e s
            · exact .same rfl rfl
          · split
            · split <;> exact .same rfl rfl
            · split
              · exact .same rfl rfl
              · split
                · exact (hs e).trans (.same (by rfl) (by rfl))
                · exact (hs e).trans (.same (by rfl) (by rfl))
        · show Sm e (E.at_others e s now)
          unfold E.at_others; split
          · unfold E.out_of_place E.oop2
            split
            · exact .same rfl rfl
            · split <;> split <;> exact .same rfl rfl
          · split
            · unfold E.reset_comes; split
              · exact .same rfl rfl
              · split <;> exact .same rfl rfl
            · split
              · exact .same rfl rfl
              · split
                · split
                  · split
                    · exact (ans_sm e s now).trans (dc_sm _ _ _)
                    · exact ans_sm e s now
                  · exact ans_sm e s now
                · exact .same rfl rfl
theorem sz_seg {e : EndS} {s : Seg} {now : Int} (h : Sz e) : Sz (E.arrive_segment e s now).1 := (arrive_sm e s now).sz h
theorem sz_arrive {e : EndS} {row : List Int} {now : Int} (h : Sz e) : Sz (E.arrive e row now).1 := by
  unfold E.arrive; split
  · exact sz_seg h
  · exact h
theorem data_le (row : List Int) : (getS row).data.length ≤ row.length := sl_len _ _ _
theorem pn_arrive (e : EndS) (row : List Int) (now : Int) : PN (E.arrive e row now).1.pile ≤ PN e.pile + row.length := by
  unfold E.arrive; split
  · exact Nat.le_trans (arrive_pn _ _ _) (Nat.add_le_add_left (data_le row) _)
  · exact Nat.le_add_right _ _
theorem sz_opened1 (A b f : Int) (row : List Int) (now : Int) : Sz (E.arrive (opened A b f false) row now).1 := sz_arrive (sz_opened A b f false)
theorem psz_opened1 (A f : Int) (row : List Int) (h : row.length ≤ 900) : Lg.PSz (E.send (E.arrive (opened A 7 f false) row 0).1 0).1.pile := by
  rw [(send_out _ _).2.2]
  have h1 := pn_arrive (opened A 7 f false) row 0
  have h2 : PN (opened A 7 f false).pile = 0 := rfl
  rw [h2] at h1
  show PN _ ≤ 10000
  omega
/-! ### the laws' ends -/
def lfirst (n : Int) : Int := if decide (n % 2 = 0) = true then (4294967296 - n / 2 % 90) % 4294967296 else n
theorem lfirst_range {n : Int} (h : 0 ≤ n ∧ n < 4294967231) : 0 ≤ lfirst n ∧ lfirst n ≤ 4294967295 := by
  unfold lfirst
  split <;> omega
/-- an open end, by whom, with what window and most -/
def opn0 (A B f g W m : Int) : EndS :=
  { opened A 7 f false with theirs := B, state := .opn, una := plus f 1, nxt := plus f 1, synced := true, rcv := plus g 1, wnd := W, told := plus g 1, told_by := plus f 1, most := if decide (0 < m) = true then m else 12 }
theorem settle_none {q : PileS} (h : getK q.early q.come = none) : settle q = (q, 0) := by
  unfold settle
  rw [settle1]
  rw [dif_neg (by rw [h]; simp)]
theorem plus_mod (a b : Int) : plus (plus a b) 0 = plus a b := by unfold plus; omega
theorem offset_self (a : Int) : offset a a = 0 := by unfold offset; simp
theorem ok_mk {src goal num ans flags win most : Int} {data : List Int} (h1 : 0 ≤ src ∧ src ≤ 65535) (h2 : 0 ≤ goal ∧ goal ≤ 65535) (h3 : 0 ≤ num ∧ num ≤ 4294967295) (h4 : 0 ≤ ans ∧ ans ≤ 4294967295) (h5 : 0 ≤ flags ∧ flags ≤ 31) (h6 : 0 ≤ win ∧ win ≤ 65535)
    (h7 : most = 0 ∨ (4 ≤ most ∧ most ≤ 65535 ∧ flags / 2 % 2 = 1)) (h8 : data.length ≤ 16) (h9 : By data) : Ok ⟨src, goal, num, ans, flags, win, most, data⟩ := ⟨h1, h2, h3, h4, h5, h6, h7, h8, h9⟩
theorem by_nil : By [] := fun x h => nomatch h
theorem plus_rg (a b : Int) : 0 ≤ plus a b ∧ plus a b ≤ 4294967295 := by have := plus_range a b; omega
theorem opened_steps {A B f g W m : Int} (hA : 0 ≤ A ∧ A ≤ 65535) (hB : 0 ≤ B ∧ B ≤ 65535) (hf : 0 ≤ f ∧ f ≤ 4294967295) (hg : 0 ≤ g ∧ g ≤ 4294967295) (hW : 0 ≤ W ∧ W ≤ 65535) (hm : m = 0 ∨ (4 ≤ m ∧ m ≤ 65535)) :
    (E.arrive (E.send (E.arrive (opened A 7 f false) (put ⟨B, A, g, 0, 2, W, m, []⟩) 0).1 0).1 (put ⟨B, A, plus g 1, plus f 1, 16, W, 0, []⟩) 0).1 = opn0 A B f g W m := by
  have ok1 : Ok ⟨B, A, g, 0, 2, W, m, []⟩ := ok_mk hB hA hg (by decide) (by decide) hW (by rcases hm with h | h; exact .inl h; exact .inr ⟨h.1, h.2, by decide⟩) (Nat.zero_le _) by_nil
  have ok2 : Ok ⟨B, A, plus g 1, plus f 1, 16, W, 0, []⟩ := ok_mk hB hA (plus_rg _ _) (plus_rg _ _) (by decide) hW (.inl rfl) (Nat.zero_le _) by_nil
  rw [arrive_put ok1, arrive_put ok2]
  have hn : ¬ plus f 1 = f := plus_ne hf
  have e1 : (E.arrive_segment (opened A 7 f false) ⟨B, A, g, 0, 2, W, m, []⟩ 0).1 = { opened A 7 f false with theirs := B, state := .synCome, rcv := plus g 1, wnd := W, told := g, told_by := 0, most := if decide (0 < m) = true then m else 12 } := by
    by_cases h : 0 < m <;> simp [E.arrive_segment, E.at_listen, E.hear_syn, E.hear_window, E.inS, M.has, opened, h]
  rw [e1]
  generalize hmo : (if decide (0 < m) = true then m else 12) = mo
  have e2 : (E.send { opened A 7 f false with theirs := B, state := .synCome, rcv := plus g 1, wnd := W, told := g, told_by := 0, most := mo } 0).1 = { opened A 7 f false with theirs := B, state := .synCome, rcv := plus g 1, wnd := W, told := g, told_by := 0, most := mo, nxt := plus f 1 } := by
    simp [E.send, E.send2, E.inS, E.outstanding, opened, offset_self, E.syn_goes, E.syn2, start]
  rw [e2]
  have hs : settle { held := [], come := 0, early := [], last := none } = ({ held := [], come := 0, early := [], last := none }, 0) := settle_none rfl
  simp [E.arrive_segment, E.at_others, E.fits, E.inS, M.has, M.length, M.b2i, offset_self, opened, E.answer_comes, E.first_answer, hn, E.hear_window, E.data_comes, E.dc2, E.dc3, hs, Pile0, is_over, opn0, plus_mod]
  simpa using hmo.symm
end M
namespace Lg
open PySem PySem.Spec PyProof.Rows L2 Wr M
def f_lfirst (l : List Da) (d : Da) : Prop := ∃ n, l = [.int n] ∧ d = .int (M.lfirst n)
def f_lsegment (l : List Da) (d : Da) : Prop := ∃ a b n an fl w data, l = [ti [a, b], .int n, .int an, .int fl, .int w, li data] ∧ d = sg ⟨b, a, n, an, fl, w, 0, data⟩
def R_given : RelE := fun e a e' d => ∃ now, a = [.int now] ∧ Sz e ∧ e' = (M.given e now 40).1 ∧ d = lsg (M.given e now 40).2
def lopD (ns : List Int) (b : Int) (p : Addr) : Da := .tup [.ref p, ti [mix ns b % 65536, mix ns (b + 1) % 65536], .int (plus (lfirst (mix ns (b + 2))) 1), .int (plus (lfirst (mix ns (b + 3))) 1)]
def lop (ns : List Int) (b W m : Int) : EndS := opn0 (mix ns b % 65536) (mix ns (b + 1) % 65536) (lfirst (mix ns (b + 2))) (lfirst (mix ns (b + 3))) W m
def e_lopened (K : PySem.W.Frag) (l : List Da) (rs : List Rs) (f : Addr → Da) (g : Addr → List Rs) : Prop :=
  ∃ ns b W m, l = [.scr ns, .int b, .int W, .int m] ∧ (0 ≤ W ∧ W ≤ 65535) ∧ (m = 0 ∨ (4 ≤ m ∧ m ≤ 65535)) ∧ f = lopD ns b ∧ g = fun p => endR K p (lop ns b W m) :: rs
end Lg
namespace M
theorem given_in {e e1 : EndS} {now : Int} {i : Nat} {l : List (Option Seg)} (hi : i < 40) (h : given e now 40 = ((given e1 now (40 - i)).1, l ++ (given e1 now (40 - i)).2)) :
    (decide ((E.send e1 now).2 = []) = true → given e now 40 = ((E.send e1 now).1, l)) ∧
    (decide ((E.send e1 now).2 = []) = false → given e now 40 = ((given (E.send e1 now).1 now (40 - (i + 1))).1, (l ++ [lread (E.send e1 now).2]) ++ (given (E.send e1 now).1 now (40 - (i + 1))).2)) := by
  have e0 : 40 - i = (40 - (i + 1)) + 1 := by omega
  rw [e0, given_succ e1] at h
  constructor
  · intro hc
    rw [if_pos hc] at h
    rw [h]; simp
  · intro hc
    rw [if_neg (by rw [hc]; exact Bool.false_ne_true)] at h
    rw [h]; simp
end M

/-! The head's run in three parts (each a declaration of its own). -/
namespace Wr
open PySem PySem.W PySem.Calls PyProof.Rows HandSHeadRun
def Run1 (r : OpenRow) (M : Nat) (w : World) : Prop := ∀ os : OsState, (endF (stepQ (denQ tabQ) r.prog w) M r.prog w os).map (fun s => looksF r.prog (boot_heap w.params) s.abs) = some true
def Run2 (r : OpenRow) (q : Program) (loose : List PySem.Str) (M : Nat) (w : World) : Prop := ∀ os : OsState, (endF (stepQ (denQ tabQ) r.prog w) M r.prog w os).map (fun s => seenQ q loose (importedModules r.prog.main.body) (fun s => xlAt q [] s && recOk r.toRowW.records s) s.abs) = some (openGood q loose)
def Run3 (r : OpenRow) {α : Type} (ob : SharedT → α) (v : α) (M : Nat) (w : World) : Prop := ∀ os : OsState, (endF (stepQ (denQ tabQ) r.prog w) M r.prog w os).map ob = some v
theorem opt3 {A B C D : Type} {f : A → B} {g : A → C} {h : A → D} {a : B} {b : C} {c : D} : ∀ o : Option A, o.map f = some a → o.map g = some b → o.map h = some c → o.map (fun s => (f s, g s, h s)) = some (a, b, c)
  | none, h1, _, _ => by cases h1
  | some x, h1, h2, h3 => by
    rw [← Option.some.inj h1, ← Option.some.inj h2, ← Option.some.inj h3]
    rfl
theorem runEq_of {r : OpenRow} {q : Program} {H : Hook} {ob : SharedT → H.α} {M : Nat} {loose : List PySem.Str} {w : World} (h1 : Run1 r M w) (h2 : Run2 r q loose M w) (h3 : Run3 r ob (H.val w) M w) : RunEq r q H ob M loose w := fun os => opt3 _ (h1 os) (h2 os) (h3 os)
end Wr
namespace Lg
open PySem PySem.Spec PyProof.Rows L2 Wr
theorem g_ds {K : PySem.W.Frag} {F0 : Hp} {D : Ends} {ds ds' : List (Option Da)} {rs : List Rs} {t : TS} (e : ds = ds') (k : G K F0 t D ds' rs) : G K F0 t D ds rs := e ▸ k
end Lg
namespace Wr
open PySem PySem.W PySem.Calls PyProof.Rows HandSHeadRun
/-- what the module's names reach, step by step, nothing looked for twice over -/
def lvY (g : Addr → Option Obj) : Nat → List Addr
  | 0 => [mainGlobals]
  | n + 1 => (lvY g n).flatMap fun a => match g a with
    | some o => He.refsD o
    | none => []
def asY (g : Addr → Option Obj) : List Addr := lvY g 0 ++ (lvY g 1 ++ (lvY g 2 ++ (lvY g 3 ++ (lvY g 4 ++ (lvY g 5 ++ lvY g 6)))))
def obsY (fa : List He.Fa) (fn : List He.DefD) (ex : Frag → Bool) (g : Addr → Option Obj) : He.AlX := (He.obsT fa fn [] (He.frT g (asY g)), ex (He.frT g (asY g)))
theorem saysY_of {fa : List He.Fa} {fn : List He.DefD} {ex : Frag → Bool} {w : World} {h : Heap} (e : obsY fa fn ex h.get? = He.valX fn [] w) : He.SaysX fa fn [] [] ex w h (He.frT h.get? (asY h.get?)) := by
  have e1 : He.obsT fa fn [] (He.frT h.get? (asY h.get?)) = He.valT fn [] w := congrArg (fun z : He.AlX => z.1) e
  have e2 : ex (He.frT h.get? (asY h.get?)) = true := congrArg (fun z : He.AlX => z.2) e
  exact ⟨e1, e2, (fun p hp => absurd hp (by simp)), (fun p hp => absurd hp (by simp)), (fun p hp => absurd hp (by simp))⟩
def hookY (fa : List He.Fa) (fn : List He.DefD) (ex : Frag → Bool) : Hook where
  α := He.AlX
  obs := fun s => obsY fa fn ex s.heap.get?
  val := fun w => He.valX fn [] w
  says := fun w h => ∃ K : Frag, K.In h ∧ He.SaysX fa fn [] [] ex w h K
  of := fun _ _ e => ⟨_, He.frT_in, saysY_of e⟩
  keeps := fun _ _ _ ⟨K, hK, c⟩ k => ⟨K, Frag.In.keeps hK k, ⟨c.t, c.more, c.hd, c.out, fun p hp => k _ _ (c.empty p hp)⟩⟩
theorem obsY_eq {fa : List He.Fa} {fn : List He.DefD} {ex : Frag → Bool} {g : Addr → Option Obj} {s : Shared} (h : ∀ a, g a = s.heap.get? a) : obsY fa fn ex g = (hookY fa fn ex).obs s := by
  have e : g = s.heap.get? := funext h
  rw [e] <;> rfl
/-- the Hook's Bools -/
def obB (fa : List He.Fa) (fn : List He.DefD) (ex : Frag → Bool) (s : SharedT) : Bool :=
  (((fa.all fun f => f.ok (He.frT (getT s) (asY (getT s)))) && fn.all fun d => d.ok (He.frT (getT s) (asY (getT s)))) && ex (He.frT (getT s) (asY (getT s))))
/-- the Hook's defs -/
def obL (fn : List He.DefD) (s : SharedT) : List He.FnW := fn.map fun d => He.fnW (He.frT (getT s) (asY (getT s))) d.at_
theorem run3_of {r : OpenRow} {fa : List He.Fa} {fn : List He.DefD} {ex : Frag → Bool} {M : Nat} {w : World} (h1 : Run3 r (obB fa fn ex) true M w) (h2 : Run3 r (obL fn) (fn.map He.DefD.val) M w) : Run3 r (fun s => obsY fa fn ex (getT s)) (He.valX fn [] w) M w := fun os => by
  have a := h1 os
  have b := h2 os
  revert a b
  cases endF (stepQ (denQ tabQ) r.prog w) M r.prog w os with
  | none => intro a _; cases a
  | some s =>
    intro a b
    have a1 : obB fa fn ex s = true := Option.some.inj a
    have b1 : obL fn s = fn.map He.DefD.val := Option.some.inj b
    unfold obB at a1
    obtain ⟨a2, a3⟩ := Bool.and_eq_true_iff.mp a1
    show some (obsY fa fn ex (getT s)) = _
    unfold obsY He.obsT He.obsD He.valX He.valT He.valD
    unfold obL at b1
    rw [a2, a3, b1]
    rfl
end Wr

namespace M
@[simp] theorem put_isE (s : Seg) : (put s).isEmpty = false := by
  cases h : put s with
  | nil => exact absurd h (put_ne s)
  | cons a l => rfl
@[simp] theorem mx00 : mx 0 0 = 0 := rfl
def sends (e : EndS) (now : Int) : List (List Int) → Prop
  | [] => True
  | r :: l => (E.send e now).2 = r ∧ sends (E.send e now).1 now l
def goes13 (s : Seg) (mine : Int) (sent : Bool) : List (List Int) := if (!sent) = true then [put ⟨s.goal, s.src, mine, 0, 2, 64, 16, []⟩] else []
def due13 (s : Seg) (mine : Int) (sent : Bool) : St × Er × List (List Int) :=
  if (has s 16 && (!decide (s.ans = plus mine 1) || !sent)) = true then
    (if (!has s 4) = true then (.synSent, .none, put ⟨s.goal, s.src, s.ans, 0, 4, 0, 0, []⟩ :: goes13 s mine sent) else (.synSent, .none, goes13 s mine sent))
  else if has s 4 = true then (if has s 16 = true then (.closed, .refused, []) else (.synSent, .none, goes13 s mine sent))
  else if (has s 2 && has s 16) = true then (.opn, .none, [put ⟨s.goal, s.src, s.ans, plus s.num 1, 16, 64, 0, []⟩])
  else if has s 2 = true then (.synCome, .none, [put ⟨s.goal, s.src, mine, plus s.num 1, 18, 64, 16, []⟩])
  else (.synSent, .none, goes13 s mine sent)
theorem due13_len (s : Seg) (mine : Int) (sent : Bool) : (due13 s mine sent).2.2.length ≤ 2 := by
  unfold due13 goes13
  split
  · split <;> split <;> simp
  · split
    · split <;> (try split) <;> simp
    · split
      · simp
      · split
        · simp
        · split <;> simp
def start13 (s : Seg) (mine : Int) (sent : Bool) : EndS := if sent = true then called s.goal s.src mine 50 1000 0 else opened s.goal s.src mine true
theorem due13_ok {s : Seg} {mine : Int} {sent : Bool} (hm : 0 ≤ mine ∧ mine ≤ 4294967295) :
    (E.arrive_segment (start13 s mine sent) s 60).2 = true ∧ (E.arrive_segment (start13 s mine sent) s 60).1.state = (due13 s mine sent).1 ∧ (E.arrive_segment (start13 s mine sent) s 60).1.error = (due13 s mine sent).2.1 ∧
    sends (E.arrive_segment (start13 s mine sent) s 60).1 60 ((due13 s mine sent).2.2 ++ [[]]) := by
  have hn : ¬ plus mine 1 = mine := plus_ne hm
  have ho := offset_one hm
  cases sent <;> cases h16 : has s 16 <;> cases h4 : has s 4 <;> cases h2 : has s 2 <;> by_cases ha : s.ans = plus mine 1 <;> by_cases hmo : 0 < s.most <;>
    simp [start13, due13, goes13, h16, h4, h2, ha, hmo, hn, ho, E.arrive_segment, called, opened, E.inS, E.at_syn_sent, E.reset_for, shut, E.hear_syn, E.hear_window, start, sends, E.send, E.send2, E.outstanding, offset_self, E.syn_goes, E.syn2, E.syn_made, E.answer_goes, E.send3, E.send4, E.new_goes, E.probe, E.unsent, E.has_more, E.made, room, Pile0]
end M
namespace Lg
open PySem PySem.Spec PyProof.Rows L2 Wr M
def d13 (x : M.St × M.Er × List (List Int)) : Da := .tup [.str (stx x.1), .str (etx x.2.1), .list (x.2.2.map li)]
def f_due13 (l : List Da) (d : Da) : Prop := ∃ s mine sent, l = [sg s, .int mine, .bl sent] ∧ d = d13 (due13 s mine sent)
end Lg
namespace M
theorem drop_get {α : Type} {l : List α} {i : Nat} {x : α} (h : l[i]? = some x) : l.drop i = x :: l.drop (i + 1) := by
  obtain ⟨hi, e⟩ := List.getElem?_eq_some_iff.mp h
  rw [List.drop_eq_getElem_cons hi, e]
theorem map_get {α β : Type} {f : α → β} {l : List α} {i : Nat} {y : β} (h : (l.map f)[i]? = some y) : ∃ x, l[i]? = some x ∧ y = f x := by
  rw [List.getElem?_map] at h
  cases e : l[i]? with
  | none => rw [e] at h; cases h
  | some x => rw [e] at h; exact ⟨x, rfl, (Option.some.inj h).symm⟩
end M
namespace M
theorem pow_pos {x : Int} (h : x ∈ ([1, 2, 4, 8, 16] : List Int)) : 0 < x ∧ x.natAbs < 2 ^ 10 := by
  simp at h
  rcases h with h | h | h | h | h <;> subst h <;> decide
end M

/-! What piles come to. -/
namespace M
theorem getK_nil (k : Int) : getK [] k = none := rfl
theorem getK_cons (a b : Int) (l : List (Int × Int)) (k : Int) : getK ((a, b) :: l) k = if a = k then some b else getK l k := by
  unfold getK
  rw [List.find?_cons]
  by_cases h : a = k
  · rw [if_pos h]; simp [h]
  · rw [if_neg h]; simp [h]
theorem getK_app (l m : List (Int × Int)) (k : Int) : getK (l ++ m) k = (getK l k).or (getK m k) := by
  induction l with
  | nil => rfl
  | cons x l ih =>
    obtain ⟨a, b⟩ := x
    rw [List.cons_append, getK_cons, getK_cons, ih]
    split <;> rfl
theorem getK_addK (l : List (Int × Int)) (a b k : Int) : getK (addK l a b) k = if k = a ∧ getK l a = none then some b else getK l k := by
  unfold addK
  cases h : getK l a with
  | some z => simp
  | none =>
    by_cases hk : k = a
    · subst hk; simp [getK_app, getK_cons, getK_nil, h]
    · have hk2 : ¬ a = k := fun z => hk z.symm
      simp [getK_app, getK_cons, getK_nil, hk, hk2]
theorem getK_delK (l : List (Int × Int)) (a k : Int) : getK (delK l a) k = if k = a then none else getK l k := by
  induction l with
  | nil => simp [delK, getK_nil]
  | cons x l ih =>
    obtain ⟨c, d⟩ := x
    unfold delK at *
    by_cases hc : c = a
    · subst hc
      rw [List.filter_cons_of_neg (by simp), ih, getK_cons]
      by_cases hk : k = c
      · rw [if_pos hk, if_pos hk]
      · rw [if_neg hk, if_neg hk, if_neg (fun z => hk z.symm)]
    · rw [List.filter_cons_of_pos (by simp [hc]), getK_cons, getK_cons, ih]
      by_cases hk : k = a
      · subst hk; rw [if_neg hc, if_pos rfl, if_pos rfl]
      · rw [if_neg hk, if_neg hk]
/-- what is kept of bytes that begin so far behind -/
theorem keepN_get (q : PileS) (far : Int) (data : List Int) : ∀ (n : Nat), n ≤ data.length → ∀ k, getK (keepN q far data n).early k =
    (getK q.early k).or (if 0 ≤ k - q.come ∧ k - q.come < room q ∧ 0 ≤ k - q.come - far ∧ k - q.come - far < (n : Int) then some (data.getD (k - q.come - far).toNat 0) else none)
  | 0, _, k => by
    rw [if_neg (by omega)]
    show getK q.early k = _
    simp
  | n + 1, hn, k => by
    have ih := keepN_get q far data n (by omega)
    obtain ⟨h1, h2, h3, h4⟩ := keepN_len q far data n
    by_cases hc : (decide (0 ≤ far + (n : Int)) && decide (far + (n : Int) < room q)) = true
    · rw [keepN_yes hc]
      have hc1 : 0 ≤ far + (n : Int) ∧ far + (n : Int) < room q := by simpa using hc
      show getK (addK (keepN q far data n).early ((keepN q far data n).come + far + (n : Int)) (data.getD n 0)) k = _
      rw [getK_addK, h3, ih, ih]
      by_cases hk : k = q.come + far + (n : Int)
      · have e1 : (k - q.come - far).toNat = n := by omega
        have hi : 0 ≤ k - q.come ∧ k - q.come < room q ∧ 0 ≤ k - q.come - far ∧ k - q.come - far < ((n + 1 : Nat) : Int) := by omega
        have hn0 : ¬ (0 ≤ k - q.come ∧ k - q.come < room q ∧ 0 ≤ k - q.come - far ∧ k - q.come - far < (n : Int)) := by omega
        rw [if_pos hi, if_neg hn0, ← hk, if_neg hn0]
        cases hg : getK q.early k with
        | none => simp [e1]
        | some b => simp
      · rw [if_neg (fun z => hk z.1)]
        congr 1
        by_cases hi : 0 ≤ k - q.come ∧ k - q.come < room q ∧ 0 ≤ k - q.come - far ∧ k - q.come - far < (n : Int)
        · rw [if_pos hi, if_pos (by omega)]
        · rw [if_neg hi, if_neg (by omega)]
    · have hc' : (decide (0 ≤ far + (n : Int)) && decide (far + (n : Int) < room q)) = false := by simpa using hc
      rw [keepN_no hc', ih]
      have hc1 : ¬ (0 ≤ far + (n : Int) ∧ far + (n : Int) < room q) := by simpa using hc
      congr 1
      by_cases hi : 0 ≤ k - q.come ∧ k - q.come < room q ∧ 0 ≤ k - q.come - far ∧ k - q.come - far < (n : Int)
      · rw [if_pos hi, if_pos (by omega)]
      · rw [if_neg hi, if_neg (by omega)]
theorem keep_get (q : PileS) (far : Int) (data : List Int) (k : Int) : getK (keep q far data).early k =
    (getK q.early k).or (if 0 ≤ k - q.come ∧ k - q.come < room q ∧ 0 ≤ k - q.come - far ∧ k - q.come - far < (data.length : Int) then some (data.getD (k - q.come - far).toNat 0) else none) := keepN_get q far data _ (Nat.le_refl _) k
theorem keep_same (q : PileS) (far : Int) (data : List Int) : (keep q far data).held = q.held ∧ (keep q far data).come = q.come ∧ (keep q far data).last = q.last := (keepN_len q far data data.length).2
/-- keys from a place on, so many, taken away -/
def delR (l : List (Int × Int)) (c : Int) : Nat → List (Int × Int)
  | 0 => l
  | n + 1 => delR (delK l c) (c + 1) n
theorem delR_get : ∀ (n : Nat) (l : List (Int × Int)) (c k : Int), getK (delR l c n) k = if c ≤ k ∧ k < c + (n : Int) then none else getK l k
  | 0, l, c, k => by rw [if_neg (by omega)]; rfl
  | n + 1, l, c, k => by
    show getK (delR (delK l c) (c + 1) n) k = _
    rw [delR_get n, getK_delK]
    by_cases h : k = c
    · subst h; rw [if_neg (by omega), if_pos rfl, if_pos (by omega)]
    · rw [if_neg h]
      by_cases h2 : c + 1 ≤ k ∧ k < c + 1 + (n : Int)
      · rw [if_pos h2, if_pos (by omega)]
      · rw [if_neg h2, if_neg (by omega)]
theorem settle1_run : ∀ (bs : List Int) (q : PileS) (m : Int), (∀ j : Nat, (hj : j < bs.length) → getK q.early (q.come + (j : Int)) = some bs[j] ∧ some (q.come + (j : Int)) ≠ q.last) →
    (getK q.early (q.come + (bs.length : Int)) = none ∨ some (q.come + (bs.length : Int)) = q.last) →
    settle1 q m = ({ held := q.held ++ bs, come := q.come + (bs.length : Int), early := delR q.early q.come bs.length, last := q.last }, m + (bs.length : Int))
  | [], q, m, h1, h2 => by
    rw [settle1]
    have e : q = { held := q.held ++ [], come := q.come + ((([] : List Int).length : Nat) : Int), early := delR q.early q.come ([] : List Int).length, last := q.last } := by
      obtain ⟨a, b, c, d⟩ := q
      simp [delR]
    rw [← e]
    simp only [List.length_nil, Int.natCast_zero, Int.add_zero] at h2
    rcases h2 with h2 | h2
    · rw [dif_neg (by rw [h2]; simp)]; simp
    · split
      · rw [if_pos (by simp [h2])]; simp
      · simp
  | b :: bs, q, m, h1, h2 => by
    have h0 := h1 0 (by simp)
    simp only [Int.natCast_zero, Int.add_zero, List.getElem_cons_zero] at h0
    rw [settle1]
    rw [dif_pos (by rw [h0.1]; rfl), if_neg (by simpa using h0.2), h0.1]
    rw [settle1_run bs]
    · simp only [Option.getD_some, List.length_cons, Int.natCast_add, Int.natCast_one]
      rw [show q.held ++ [b] ++ bs = q.held ++ b :: bs by simp]
      refine Prod.ext ?_ (by simp; omega)
      simp only [PileS.mk.injEq, true_and, and_true]
      refine ⟨by omega, rfl⟩
    · intro j hj
      have h := h1 (j + 1) (by simp; omega)
      simp only [List.getElem_cons_succ, Int.natCast_add, Int.natCast_one] at h
      refine ⟨?_, ?_⟩
      · show getK (delK q.early q.come) (q.come + 1 + (j : Int)) = _
        rw [getK_delK, if_neg (by omega), show q.come + 1 + (j : Int) = q.come + ((j : Int) + 1) by omega]
        exact h.1
      · show some (q.come + 1 + (j : Int)) ≠ q.last
        rw [show q.come + 1 + (j : Int) = q.come + ((j : Int) + 1) by omega]
        exact h.2
    · simp only [List.length_cons, Int.natCast_add, Int.natCast_one] at h2
      rcases h2 with h2 | h2
      · left
        show getK (delK q.early q.come) (q.come + 1 + (bs.length : Int)) = none
        rw [getK_delK, show q.come + 1 + (bs.length : Int) = q.come + ((bs.length : Int) + 1) by omega, h2]
        split <;> rfl
      · right
        show some (q.come + 1 + (bs.length : Int)) = q.last
        rw [show q.come + 1 + (bs.length : Int) = q.come + ((bs.length : Int) + 1) by omega]
        exact h2
theorem settle_run {q : PileS} {bs : List Int} (h1 : ∀ j : Nat, (hj : j < bs.length) → getK q.early (q.come + (j : Int)) = some bs[j] ∧ some (q.come + (j : Int)) ≠ q.last) (h2 : getK q.early (q.come + (bs.length : Int)) = none ∨ some (q.come + (bs.length : Int)) = q.last) :
    settle q = ({ held := q.held ++ bs, come := q.come + (bs.length : Int), early := delR q.early q.come bs.length, last := q.last }, (bs.length : Int)) := by
  have := settle1_run bs q 0 h1 h2
  rw [Int.zero_add] at this
  exact this
/-- nothing lies early: a pile by what it holds and how many came -/
def pl (held : List Int) (come : Int) (last : Option Int) (early : List (Int × Int)) : PileS := { held := held, come := come, early := early, last := last }
/-- bytes in order, all in the window, none early: they are all there at once -/
theorem settle_keep {q : PileS} {data : List Int} (he : ∀ k, q.come ≤ k → getK q.early k = none) (hl : q.last = none) (hr : (data.length : Int) ≤ room q) :
    ∃ ea, settle (keep q 0 data) = ({ held := q.held ++ data, come := q.come + (data.length : Int), early := ea, last := none }, (data.length : Int)) ∧ ∀ k, q.come + (data.length : Int) ≤ k → getK ea k = none := by
  obtain ⟨h1, h2, h3⟩ := keep_same q 0 data
  have r := settle_run (q := keep q 0 data) (bs := data) (fun j hj => by
    rw [h2, h3, hl]
    refine ⟨?_, by simp⟩
    rw [keep_get, he _ (by omega), if_pos (by omega)]
    have e : (q.come + (j : Int) - q.come - 0).toNat = j := by omega
    rw [e, List.getD_eq_getElem?_getD, List.getElem?_eq_getElem hj]
    rfl) (.inl (by rw [h2, keep_get, he _ (by omega), if_neg (by omega)]; rfl))
  rw [h1, h2, h3, hl] at r
  exact ⟨_, r, fun k hk => by rw [delR_get]; split; rfl; rw [keep_get, he _ (by omega), if_neg (by omega)]; rfl⟩
end M

/-! What goes from an end that lives. -/
namespace M
@[simp] theorem put_eq_nil (s : Seg) : (put s = []) = False := eq_false (put_ne s)
abbrev living : List M.St := [.opn, .waitOne, .waitTwo, .closeWait, .closing, .lastAck]
structure Live (e : EndS) : Prop where
  reset : e.reset = none
  state : E.inS e.state living = true
theorem Live.not {e : EndS} (h : Live e) : e.state ≠ .timeWait ∧ E.inS e.state [.closed, .listen] = false ∧ E.inS e.state [.synSent, .synCome] = false ∧ e.state ≠ .synCome := by
  have := h.state
  cases hs : e.state <;> simp [hs, E.inS] at this ⊢
theorem send_live {e : EndS} {now : Int} (h : Live e) (hna : (decide (0 < E.outstanding e) && decide (e.wait ≤ now - e.since)) = false) : E.send e now = E.send3 (E.new_goes e now) now := by
  obtain ⟨h1, h2, h3, _⟩ := h.not
  rw [send_none h.reset, if_neg (by simp [h1])]
  unfold E.send2
  rw [if_neg (by rw [h2]; simp), if_neg (by rw [hna]; simp), if_neg (by rw [h3]; simp)]
theorem send_more {e : EndS} {now : Int} (h : Live e) (ho : 0 < E.outstanding e) (hw : e.wait ≤ now - e.since) : E.send e now = E.again e now := by
  obtain ⟨h1, h2, h3, _⟩ := h.not
  rw [send_none h.reset, if_neg (by simp [h1])]
  unfold E.send2
  rw [if_neg (by rw [h2]; simp), if_pos (by simp [ho, hw])]
theorem send3_row {r : EndS × List Int} {now : Int} (h : r.2 ≠ []) : E.send3 r now = r := by
  unfold E.send3 E.send4
  have : r.2.isEmpty = false := by cases hr : r.2 with | nil => exact absurd hr h | cons a l => rfl
  simp [h]
theorem send3_nil {e : EndS} {now : Int} : E.send3 (e, []) now = E.send4 (E.probe e now) := by
  unfold E.send3
  simp
theorem send4_nil {e : EndS} : E.send4 (e, []) = E.answer_goes e := by
  unfold E.send4
  simp
theorem send4_row {r : EndS × List Int} (h : r.2 ≠ []) : E.send4 r = r := by
  unfold E.send4
  simp [h]
theorem send_data {e : EndS} {now : Int} (h : Live e) (hna : (decide (0 < E.outstanding e) && decide (e.wait ≤ now - e.since)) = false) (hg : E.inS e.state E.giving = true) (hu : 0 < E.unsent e) (hm : 0 < E.many_new e) : E.send e now = E.data_goes e now (E.many_new e) := by
  have q : E.new_goes e now = E.data_goes e now (E.many_new e) := by
    unfold E.new_goes
    rw [if_pos (by rw [hg]; simp [hu]), if_pos (by simp [hm])]
  rw [send_live h hna, q]
  exact send3_row (put_ne _)
theorem send_fin {e : EndS} {now : Int} (h : Live e) (hna : (decide (0 < E.outstanding e) && decide (e.wait ≤ now - e.since)) = false) (hu : ¬ 0 < E.unsent e) (he : E.inS e.state E.ending = true) (hf : e.fin_gone = false) (hw : 0 < e.wnd - E.outstanding e) : E.send e now = E.fin_goes e now := by
  have q : E.new_goes e now = E.fin_goes e now := by
    unfold E.new_goes
    rw [if_neg (by simp [hu]), if_pos (by rw [he, hf]; simp; omega)]
  rw [send_live h hna, q]
  exact send3_row (put_ne _)
/-- nothing new goes: the window is out, or all has gone -/
theorem new_none {e : EndS} {now : Int} (h : E.has_more e = false ∨ (E.many_new e ≤ 0 ∧ (0 < E.unsent e ∨ e.wnd - E.outstanding e ≤ 0))) : E.new_goes e now = (e, []) := by
  unfold E.new_goes
  by_cases hc : (E.inS e.state E.giving && decide (0 < E.unsent e)) = true
  · rw [if_pos hc]
    rcases h with h | ⟨h, _⟩
    · unfold E.has_more at h; rw [if_pos hc] at h; cases h
    · rw [if_neg (by simp; omega)]
  · rw [if_neg hc]
    rcases h with h | ⟨h1, h2⟩
    · unfold E.has_more at h
      rw [if_neg hc] at h
      rw [if_neg (by
        intro z
        simp only [Bool.and_eq_true] at z
        simp [z.1, z.2.1] at h)]
    · by_cases hg : E.inS e.state E.giving = true
      · rw [if_neg]
        intro z
        simp only [Bool.and_eq_true, decide_eq_true_eq] at z
        rcases h2 with h2 | h2
        · exact hc (by simp [hg, h2])
        · omega
      · rw [if_neg]
        intro z
        simp only [Bool.and_eq_true] at z
        have z1 := z.1
        revert z1 hg
        cases e.state <;> simp [E.inS]
/-- nothing to send: what is owed goes, or nothing -/
theorem send_idle {e : EndS} {now : Int} (h : Live e) (hna : (decide (0 < E.outstanding e) && decide (e.wait ≤ now - e.since)) = false) (hm : E.has_more e = false) : E.send e now = E.answer_goes { e with probing := false } := by
  rw [send_live h hna, new_none (.inl hm), send3_nil]
  have : E.probe e now = ({ e with probing := false }, []) := by
    unfold E.probe
    rw [if_pos (by simp [hm])]
  rw [this, send4_nil]
theorem send_full {e : EndS} {now : Int} (h : Live e) (hna : (decide (0 < E.outstanding e) && decide (e.wait ≤ now - e.since)) = false) (hm : E.many_new e ≤ 0 ∧ (0 < E.unsent e ∨ e.wnd - E.outstanding e ≤ 0)) (hp : 0 < E.outstanding e ∨ 0 < e.wnd) : E.send e now = E.answer_goes { e with probing := false } := by
  rw [send_live h hna, new_none (.inr hm), send3_nil]
  have : E.probe e now = ({ e with probing := false }, []) := by
    unfold E.probe
    rw [if_pos (by rcases hp with hp | hp <;> simp [hp])]
  rw [this, send4_nil]
theorem ans_live {e : EndS} (h : E.inS e.state living = true) : E.answer_goes e = if e.owes_answer = true then ({ e with owes_answer := false }, put ⟨e.ours, e.theirs, e.nxt, e.rcv, 16, room e.pile, 0, []⟩) else (e, []) := by
  unfold E.answer_goes
  cases ho : e.owes_answer
  · simp
  · have : (E.inS e.state [.synSent, .closed] || (decide (e.state = .synCome) && decide (e.nxt = e.first))) = false := by
      cases hs : e.state <;> simp [hs, E.inS] at h ⊢
    rw [if_neg (by simp [this]), if_pos rfl]
    simp [E.made]
/-- nothing to send, an answer owed or not -/
theorem giv_idle {e : EndS} {now : Int} (h : Live e) (hna : (decide (0 < E.outstanding e) && decide (e.wait ≤ now - e.since)) = false) (hm : E.has_more e = false) (ok : Ok ⟨e.ours, e.theirs, e.nxt, e.rcv, 16, room e.pile, 0, []⟩) :
    Giv e now (if e.owes_answer = true then [⟨e.ours, e.theirs, e.nxt, e.rcv, 16, room e.pile, 0, []⟩] else []) { e with probing := false, owes_answer := false } := by
  have h1 := send_idle h hna hm
  rw [ans_live (by exact h.state)] at h1
  cases ho : e.owes_answer
  · rw [if_neg (by simp)]
    rw [if_neg (by simp [ho])] at h1
    refine .nil ?_
    rw [h1]
    simp only [Prod.mk.injEq, and_true]
    rw [← ho]
  · rw [if_pos rfl]
    rw [if_pos (by simp [ho])] at h1
    refine .cons h1 ok (.nil ?_)
    have hl : Live { e with probing := false, owes_answer := false } := ⟨h.reset, h.state⟩
    have h2 := send_idle (e := { e with probing := false, owes_answer := false }) (now := now) hl hna hm
    rw [ans_live (by exact h.state), if_neg (by simp)] at h2
    exact h2
theorem offset_plus {a k : Int} (ha : 0 ≤ a ∧ a ≤ 4294967295) (hk : -2147483648 ≤ k ∧ k < 2147483648) : offset (plus a k) a = k := by
  unfold offset plus
  have e : ((a + k) % 4294967296 - a) % 4294967296 = k % 4294967296 := by omega
  rw [e]
  by_cases h : 2147483648 ≤ k % 4294967296
  · simp only [decide_eq_true h, if_true]; omega
  · simp only [decide_eq_false h, Bool.false_eq_true, if_false]; omega
theorem offset_pp {a i j : Int} (h : -2147483648 ≤ i - j ∧ i - j < 2147483648) : offset (plus a i) (plus a j) = i - j := by
  unfold offset plus
  have e : ((a + i) % 4294967296 - (a + j) % 4294967296) % 4294967296 = (i - j) % 4294967296 := by omega
  rw [e]
  by_cases h : 2147483648 ≤ (i - j) % 4294967296
  · simp only [decide_eq_true h, if_true]; omega
  · simp only [decide_eq_false h, Bool.false_eq_true, if_false]; omega
theorem plus_plus (a i j : Int) : plus (plus a i) j = plus a (i + j) := by unfold plus; omega
theorem mn_nat (a b : Nat) : mn (a : Int) (b : Int) = ((min a b : Nat) : Int) := by unfold mn; split <;> omega
theorem mx_nat (a b : Nat) : mx (a : Int) (b : Int) = ((max a b : Nat) : Int) := by unfold mx; split <;> omega
theorem sl_all (l : List Int) {n : Int} (h : (l.length : Int) ≤ n) : sl l none (some n) = l := by
  have e : n = ((n.toNat : Nat) : Int) := by omega
  rw [e, sl_to, List.take_of_length_le (by omega)]
theorem mn_def (a b : Int) : mn a b = if b < a then b else a := rfl
theorem mx_def (a b : Int) : mx a b = if b > a then b else a := rfl
end M
namespace M
theorem sz_mk {e : EndS} (h : e.out.length ≤ 1000) (hr : e.reset = none) : Sz e := ⟨h, fun s hs => by rw [hr] at hs; cases hs⟩
theorem by_map (f : Nat → Int) (n : Nat) : By ((List.range n).map fun k => f k % 256) := fun x hx => by
  obtain ⟨i, _, rfl⟩ := List.mem_map.mp hx
  omega
theorem by_sl {l : List Int} (h : By l) (lo hi : Option Int) : By (sl l lo hi) := By.sl h lo hi
end M

namespace M
/-- an open end -/
abbrev opnE (A B f g W mo sc : Int) : EndS :=
  { ours := A, theirs := B, first := f, state := .opn, una := plus f 1, nxt := plus f 1, synced := true, rcv := plus g 1, wnd := W, told := plus g 1, told_by := plus f 1, most := mo, out := [], pile := Pile0, fin := false, fin_gone := false, reset := none, owes_syn := false, owes_answer := false, since := sc, wait := 1000, tries := 0, probing := false, error := .none }
abbrev come11 (A B f g W mo : Int) (x : Int) : EndS := { opened A x f false with theirs := B, state := .synCome, rcv := plus g 1, wnd := W, told := g, told_by := 0, most := mo }
theorem k11_a (A x f now : Int) : E.send (opened A x f false) now = (opened A x f false, []) := by
  simp [E.send, E.send2, E.inS, opened]
theorem k11_b {A B x f g W m fl : Int} {ex : List Int} (hfl : fl = 2 ∨ fl = 3) (now : Int) : E.arrive_segment (opened A x f false) ⟨B, A, g, 0, fl, W, m, ex⟩ now = (come11 A B f g W (if decide (0 < m) = true then m else 12) x, true) := by
  rcases hfl with h | h <;> subst h <;> by_cases h : 0 < m <;> simp [E.arrive_segment, E.at_listen, E.hear_syn, E.hear_window, E.inS, M.has, opened, h]
theorem k11_c {A B x f g W mo now : Int} : E.send (come11 A B f g W mo x) now = ({ come11 A B f g W mo x with nxt := plus f 1, since := now }, put ⟨A, B, f, plus g 1, 18, 64, 16, []⟩) := by
  simp [E.send, E.send2, E.inS, E.outstanding, opened, offset_self, E.syn_goes, E.syn2, start, E.syn_made]
theorem k11_d {A B x f g W mo now sc : Int} (hf : 0 ≤ f ∧ f ≤ 4294967295) (h : now - sc < 1000) : E.send { come11 A B f g W mo x with nxt := plus f 1, since := sc } now = ({ come11 A B f g W mo x with nxt := plus f 1, since := sc }, []) := by
  have hn : ¬ plus f 1 = f := plus_ne hf
  have : ¬ 1000 ≤ now - sc := by omega
  simp [E.send, E.send2, E.inS, E.outstanding, opened, offset_one hf, E.answer_goes, this, hn]
theorem k11_e {A B x f g W mo now sc : Int} (hf : 0 ≤ f ∧ f ≤ 4294967295) : E.arrive_segment { come11 A B f g W mo x with nxt := plus f 1, since := sc } ⟨B, A, plus g 1, plus f 1, 16, W, 0, []⟩ now = (opnE A B f g W mo sc, true) := by
  have hn : ¬ plus f 1 = f := plus_ne hf
  have hs : settle { held := [], come := 0, early := [], last := none } = ({ held := [], come := 0, early := [], last := none }, 0) := settle_none rfl
  simp [E.arrive_segment, E.at_others, E.fits, E.inS, M.has, M.length, M.b2i, offset_self, opened, E.answer_comes, E.first_answer, hn, E.hear_window, E.data_comes, E.dc2, E.dc3, hs, Pile0, is_over, plus_plus]
theorem k11_f {A B f g W mo now sc : Int} : E.send (opnE A B f g W mo sc) now = (opnE A B f g W mo sc, []) := by
  simp [E.send, E.send2, E.inS, E.outstanding, offset_self, E.answer_goes, E.send3, E.send4, E.new_goes, E.probe, E.unsent, E.has_more]
theorem k11_g {A B f g W mo sc : Int} {tk : List Int} (h : tk.length ≤ 64) : E.write (opnE A B f g W mo sc) tk = ({ opnE A B f g W mo sc with out := tk }, (tk.length : Int)) := by
  have e : mn (tk.length : Int) 64 = (tk.length : Int) := by unfold mn; split <;> omega
  simp [E.write, E.inS, e, sl_all]
theorem k11_h {A B f g W mo sc now : Int} {tk : List Int} (h1 : 1 ≤ tk.length) (h : tk.length ≤ 40) (hW : 40 ≤ W) (hm : 4 ≤ mo) :
    ∃ n : Int, 1 ≤ n ∧ n ≤ 40 ∧ E.send { opnE A B f g W mo sc with out := tk } now = ({ opnE A B f g W mo now with out := tk, nxt := plus f (1 + n) },
      put ⟨A, B, plus f 1, plus g 1, 16 + 8 * b2i (decide (((sl tk none (some (mn mo 16))).length : Int) = (tk.length : Int))), 64, 0, sl tk none (some (mn mo 16))⟩) := by
  obtain ⟨s, hs, hs1⟩ : ∃ s : Nat, mn mo 16 = (s : Int) ∧ 4 ≤ s := ⟨(mn mo 16).toNat, by unfold mn; split <;> omega, by unfold mn; split <;> omega⟩
  have e1 : mx 0 ((tk.length : Int)) = (tk.length : Int) := by unfold mx; split <;> omega
  have e2 : mx 0 W = W := by unfold mx; split <;> omega
  have e3 : mn ((min s tk.length : Nat) : Int) W = ((min s tk.length : Nat) : Int) := by unfold mn; split <;> omega
  have e4 : 0 < tk.length := h1
  have e5 : sl tk (some 0) (some ((min s tk.length : Nat) : Int)) = sl tk none (some (s : Int)) := by
    rw [show (0 : Int) = ((0 : Nat) : Int) from rfl, sl_mid, sl_to]
    rw [List.drop_zero, Nat.sub_zero]
    by_cases z : s ≤ tk.length
    · rw [Nat.min_eq_left z]
    · rw [Nat.min_eq_right (by omega), List.take_of_length_le (Nat.le_refl _), List.take_of_length_le (by omega)]
  have e6 : ((sl tk none (some (s : Int))).length : Int) = ((min s tk.length : Nat) : Int) := by rw [sl_to, List.length_take]
  have e8 : E.many_new { opnE A B f g W mo sc with out := tk } = ((min s tk.length : Nat) : Int) := by
    simp [E.many_new, E.unsent, E.outstanding, offset_self, hs, e1, e2, mn_nat]
    exact e3
  have q := send_data (e := { opnE A B f g W mo sc with out := tk }) (now := now) ⟨rfl, rfl⟩ (by simp [E.outstanding, offset_self]) (by rfl) (by simp [E.unsent, E.outstanding, offset_self, e1]; omega) (by rw [e8]; omega)
  refine ⟨((min s tk.length : Nat) : Int), by omega, by omega, ?_⟩
  rw [q, e8, hs, e6]
  have e9 : ∀ b : Bool, (if b = true then (8 : Int) else 0) + 16 = 16 + 8 * b2i b := fun b => by cases b <;> rfl
  simp [E.data_goes, E.unsent, E.outstanding, offset_self, e1, E.gone, E.gone2, start, E.made, e5, room, Pile0, plus_plus]
  have := e9 (decide (((min s tk.length : Nat) : Int) = (tk.length : Int)))
  simp only [decide_eq_true_eq] at this
  rw [this]
theorem k11_i {A B f g W mo sc now n : Int} {tk data : List Int} (hn : 1 ≤ n ∧ n ≤ 40) (hg : 0 ≤ g ∧ g ≤ 4294967295) (hd : data.length ≤ 16) (hW : 40 ≤ W) :
    (E.arrive_segment { opnE A B f g W mo sc with out := tk, nxt := plus f (1 + n) } ⟨B, A, plus g 1, plus f 1, 16, W, 0, data⟩ now).2 = true ∧ (E.arrive_segment { opnE A B f g W mo sc with out := tk, nxt := plus f (1 + n) } ⟨B, A, plus g 1, plus f 1, 16, W, 0, data⟩ now).1.state = .opn ∧ (E.read (E.arrive_segment { opnE A B f g W mo sc with out := tk, nxt := plus f (1 + n) } ⟨B, A, plus g 1, plus f 1, 16, W, 0, data⟩ now).1 100).2 = data ∧
    (E.read (E.arrive_segment { opnE A B f g W mo sc with out := tk, nxt := plus f (1 + n) } ⟨B, A, plus g 1, plus f 1, 16, W, 0, data⟩ now).1 100).1.state = .opn := by
  have o1 : offset (plus f 1) (plus f (1 + n)) = -n := by rw [offset_pp (by omega)]; omega
  have hw0 : ¬ W = 0 := by omega
  have hn2 : ¬ n < 0 := by omega
  have w0 : (0 : Int) ≤ ↑data.length := by omega
  have w1 : ((data.length : Int)) ≤ 64 := by omega
  have w2 : data.length ≠ 64 := by omega
  have w3 : ¬ ((64 : Int) - (data.length : Int) = 0) := by omega
  cases data with
  | nil =>
    have hs : settle { held := [], come := 0, early := [], last := none } = ({ held := [], come := 0, early := [], last := none }, 0) := settle_none rfl
    refine ⟨?_, ?_, ?_, ?_⟩ <;>
    simp [E.arrive_segment, E.at_others, E.fits, E.inS, M.has, M.length, M.b2i, offset_self, E.answer_comes, past, o1, hn2, E.ac1, E.window_comes, E.newer, E.wc2, E.hear_window, hw0, E.ac2, E.ac3, E.data_comes, E.dc2, E.dc3, hs, Pile0, is_over, E.read, room, taken, sl]
  | cons b bs =>
    obtain ⟨ea, hk, _⟩ := settle_keep (q := { held := [], come := 0, early := [], last := none }) (data := b :: bs) (fun k _ => rfl) rfl (by simp [room] at *; omega)
    have hl : sl (b :: bs) none (some 100) = b :: bs := sl_all _ (by omega)
    simp at hl w1 w2 w3 hk
    have w4 : (0 : Int) < (bs.length : Int) + 1 := by omega
    have w5 : ¬ (bs.length : Int) + 1 = 0 := by omega
    refine ⟨?_, ?_, ?_, ?_⟩ <;>
    simp [E.arrive_segment, E.at_others, E.fits, E.inS, M.has, M.length, M.b2i, offset_self, E.answer_comes, past, o1, hn2, E.ac1, E.window_comes, E.newer, E.wc2, E.hear_window, hw0, E.ac2, E.ac3, E.data_comes, E.dc2, E.dc3, hk, Pile0, is_over, E.read, room, taken, w3, w5, hl]
end M

/-! Rows of data that go. -/
namespace M
def Goes (e : EndS) (now : Int) (l : List Seg) (e1 : EndS) : Prop := ∀ l2 e', Giv e1 now l2 e' → Giv e now (l ++ l2) e'
theorem Goes.refl (e : EndS) (now : Int) : Goes e now [] e := fun l2 e' h => h
theorem Goes.trans {e e1 e2 : EndS} {now : Int} {l m : List Seg} (h : Goes e now l e1) (k : Goes e1 now m e2) : Goes e now (l ++ m) e2 := fun l2 e' g => by
  rw [List.append_assoc]
  exact h _ _ (k _ _ g)
theorem Goes.step {e e1 e2 : EndS} {now : Int} {s : Seg} {l : List Seg} (h : E.send e now = (e1, put s)) (ok : Ok s) (k : Goes e1 now l e2) : Goes e now (s :: l) e2 := fun l2 e' g => .cons h ok (k _ _ g)
theorem Goes.end_ {e e1 e' : EndS} {now : Int} {l : List Seg} (h : Goes e now l e1) (g : E.send e1 now = (e', [])) : Giv e now l e' := by
  have := h _ _ (.nil g)
  rw [List.append_nil] at this
  exact this
/-- the data segment from the k-th byte on, so many bytes -/
def dseg (e : EndS) (k a : Nat) : Seg := ⟨e.ours, e.theirs, plus e.una (k : Int), e.rcv, (if k + a = e.out.length then 8 else 0) + 16, room e.pile, 0, (e.out.drop k).take a⟩
/-- what is left of an end when so many are out -/
def aft (e : EndS) (k : Nat) (now : Int) (k2 : Nat) : EndS :=
  { e with nxt := plus e.una (k2 : Int), probing := false, owes_answer := false, since := if k = 0 then now else e.since, wait := if k = 0 then 1000 else e.wait, tries := if k = 0 then 0 else e.tries }
structure Out (e : EndS) (k : Nat) : Prop where
  live : Live e
  syn : e.synced = true
  una : 0 ≤ e.una ∧ e.una ≤ 4294967295
  nxt : e.nxt = plus e.una (k : Int)
  le : k ≤ e.out.length
  sz : e.out.length ≤ 1000
theorem Out.outstanding {e : EndS} {k : Nat} (h : Out e k) : E.outstanding e = (k : Int) := by
  unfold E.outstanding
  rw [h.nxt, offset_plus h.una (by have := h.le; have := h.sz; omega)]
theorem Out.unsent {e : EndS} {k : Nat} (h : Out e k) : E.unsent e = ((e.out.length - k : Nat) : Int) := by
  unfold E.unsent
  rw [h.syn, h.outstanding]
  have := h.le
  simp only [Bool.not_true, Bool.false_eq_true, if_false]
  unfold mx
  split <;> omega
theorem sl_mid2 (row : List Int) (a b : Nat) : sl row (some (a : Int)) (some ((a : Int) + (b : Int))) = (row.drop a).take b := by
  rw [show (a : Int) + (b : Int) = ((a + b : Nat) : Int) by omega, sl_mid, Nat.add_sub_cancel_left]
theorem data_step {e : EndS} {k a : Nat} {now : Int} (h : Out e k) (hg : E.inS e.state E.giving = true) (ht : k = 0 ∨ now - e.since < e.wait) (ha : 0 < a) (hk : k + a ≤ e.out.length) (hm : E.many_new e = (a : Int)) :
    E.send e now = (aft e k now (k + a), put (dseg e k a)) := by
  have o := h.outstanding
  have u := h.unsent
  have hle := h.le
  have hsz := h.sz
  rw [send_data h.live (by rcases ht with z | z; simp [o, z]; simp [o]; omega) hg (by rw [u]; omega) (by rw [hm]; omega), hm]
  have e1 : (e.out.length : Int) - ((e.out.length - k : Nat) : Int) = (k : Int) := by omega
  have e2 : E.gone e now (a : Int) = aft e k now (k + a) := by
    unfold E.gone
    rw [o]
    unfold aft E.gone2
    by_cases z : k = 0
    · subst z
      have : plus e.una ((0 + a : Nat) : Int) = plus e.nxt (a : Int) := by rw [h.nxt, plus_plus]; simp
      simp [start, h.nxt, plus_plus]
    · have : ¬ (k : Int) = 0 := by omega
      simp [z, h.nxt, plus_plus]
  unfold E.data_goes
  rw [e2, u, e1, sl_mid2]
  unfold E.made dseg
  have e3 : (if decide ((k : Int) + (a : Int) = (e.out.length : Int)) = true then (8 : Int) else 0) = (if k + a = e.out.length then 8 else 0) := by
    by_cases z : k + a = e.out.length
    · rw [if_pos z, if_pos (by simp; omega)]
    · rw [if_neg z, if_neg (by simp; omega)]
  rw [e3, h.nxt]
  rfl
theorem Out.aft {e : EndS} {k : Nat} (h : Out e k) (now : Int) {k2 : Nat} (hk : k2 ≤ e.out.length) : Out (aft e k now k2) k2 := ⟨⟨h.live.reset, h.live.state⟩, h.syn, h.una, rfl, hk, h.sz⟩
theorem many_nat {e : EndS} {k S W : Nat} (h : Out e k) (hS : mn e.most 16 = (S : Int)) (hW : e.wnd = (W : Int)) : E.many_new e = ((min S (min e.out.length W - k) : Nat) : Int) := by
  unfold E.many_new
  rw [hS, h.unsent, h.outstanding, hW, mn_nat]
  have hle := h.le
  have : mx 0 ((W : Int) - (k : Int)) = ((W - k : Nat) : Int) := by unfold mx; split <;> omega
  rw [this, mn_nat]
  congr 1
  omega
/-- all data that the window lets go -/
def segs (e : EndS) (S L : Nat) : Nat → Nat → List Seg
  | 0, _ => []
  | m + 1, k => if k < L then dseg e k (min S (L - k)) :: segs e S L m (k + min S (L - k)) else []
theorem aft_aft (e : EndS) (k : Nat) (now : Int) {j : Nat} (hj : j ≠ 0) (i : Nat) : aft (aft e k now j) j now i = aft e k now i := by
  unfold aft
  simp [hj]
theorem dseg_aft (e : EndS) (k : Nat) (now : Int) (j i a : Nat) : dseg (aft e k now j) i a = dseg e i a := rfl
theorem segs_aft (e : EndS) (k : Nat) (now : Int) (j S L : Nat) : ∀ m i, segs (aft e k now j) S L m i = segs e S L m i
  | 0, _ => rfl
  | m + 1, i => by
    unfold segs
    rw [dseg_aft, segs_aft e k now j S L m]
theorem ok_dseg {e : EndS} {k a : Nat} (h1 : 0 ≤ e.ours ∧ e.ours ≤ 65535) (h2 : 0 ≤ e.theirs ∧ e.theirs ≤ 65535) (h3 : 0 ≤ e.rcv ∧ e.rcv ≤ 4294967295) (h4 : 0 ≤ room e.pile ∧ room e.pile ≤ 65535) (h5 : a ≤ 16) (h6 : By e.out) : Ok (dseg e k a) :=
  ok_mk h1 h2 (plus_rg _ _) h3 (by split <;> decide) h4 (.inl rfl) (by rw [List.length_take]; omega) (fun x hx => h6 x (List.mem_of_mem_drop (List.mem_of_mem_take hx)))
/-- what an end's own segments need -/
structure Fit (e : EndS) : Prop where
  ours : 0 ≤ e.ours ∧ e.ours ≤ 65535
  theirs : 0 ≤ e.theirs ∧ e.theirs ≤ 65535
  rcv : 0 ≤ e.rcv ∧ e.rcv ≤ 4294967295
  room : 0 ≤ room e.pile ∧ room e.pile ≤ 65535
  out : By e.out
theorem goes_data {S W : Nat} (now : Int) : ∀ (m : Nat) (e : EndS) (k : Nat), Out e k → Fit e → E.inS e.state E.giving = true → mn e.most 16 = (S : Int) → 0 < S → S ≤ 16 → e.wnd = (W : Int) → (k = 0 ∨ now - e.since < e.wait) → min e.out.length W - k ≤ m → k < min e.out.length W →
    Goes e now (segs e S (min e.out.length W) m k) (aft e k now (min e.out.length W))
  | 0, e, k, h, _, _, _, _, _, _, _, hm, hlt => by omega
  | m + 1, e, k, h, hf, hg, hS, h0, h16, hW, ht, hm, hlt => by
    have hmn := many_nat h hS hW
    have hst := data_step (a := min S (min e.out.length W - k)) (now := now) h hg ht (by omega) (by omega) hmn
    have hok : Ok (dseg e k (min S (min e.out.length W - k))) := ok_dseg hf.ours hf.theirs hf.rcv hf.room (by omega) hf.out
    have ho := h.aft now (k2 := k + min S (min e.out.length W - k)) (by omega)
    unfold segs
    rw [if_pos hlt]
    refine Goes.step hst hok ?_
    by_cases hd : k + min S (min e.out.length W - k) < min e.out.length W
    · have hne : k + min S (min e.out.length W - k) ≠ 0 := by omega
      have ih := goes_data (S := S) (W := W) now m (aft e k now (k + min S (min e.out.length W - k))) (k + min S (min e.out.length W - k)) ho ⟨hf.ours, hf.theirs, hf.rcv, hf.room, hf.out⟩ hg hS h0 h16 hW (by
        right
        show now - (if k = 0 then now else e.since) < (if k = 0 then 1000 else e.wait)
        by_cases z : k = 0
        · rw [if_pos z, if_pos z]; omega
        · rw [if_neg z, if_neg z]; rcases ht with q | q; exact absurd q z; exact q) (by show min e.out.length W - _ ≤ m; omega) hd
      rw [segs_aft, aft_aft e k now hne] at ih
      exact ih
    · have e1 : k + min S (min e.out.length W - k) = min e.out.length W := by omega
      rw [e1]
      have : segs e S (min e.out.length W) m (min e.out.length W) = [] := by
        cases m with
        | zero => rfl
        | succ m => unfold segs; rw [if_neg (by omega)]
      rw [this]
      exact Goes.refl _ _
theorem segs_sum (e : EndS) (S L : Nat) (hS : 0 < S) (hL : L ≤ e.out.length) : ∀ m k, L - k ≤ m → k ≤ L → ((segs e S L m k).map fun s => (s.data.length : Int)).sum = ((L - k : Nat) : Int)
  | 0, k, h, h2 => by unfold segs; simp; omega
  | m + 1, k, h, h2 => by
    unfold segs
    by_cases hk : k < L
    · rw [if_pos hk, List.map_cons, List.sum_cons, segs_sum e S L hS hL m _ (by omega) (by omega)]
      have : ((dseg e k (min S (L - k))).data.length : Int) = ((min S (L - k) : Nat) : Int) := by
        show (((e.out.drop k).take (min S (L - k))).length : Int) = _
        rw [List.length_take, List.length_drop]; omega
      rw [this]; omega
    · rw [if_neg hk]; simp; omega
theorem segs_len (e : EndS) (S L : Nat) : ∀ m k, 0 < S → (segs e S L m k).length * S < (L - k) + S
  | 0, k, h => by unfold segs; simp; omega
  | m + 1, k, h => by
    unfold segs
    by_cases hk : k < L
    · rw [if_pos hk, List.length_cons]
      have ih := segs_len e S L m (k + min S (L - k)) h
      by_cases z : S ≤ L - k
      · rw [Nat.min_eq_left z] at ih ⊢
        rw [Nat.add_mul, Nat.one_mul]; omega
      · rw [Nat.min_eq_right (by omega)] at ih ⊢
        have : L - (k + (L - k)) = 0 := by omega
        rw [this] at ih
        have : (segs e S L m (k + (L - k))).length = 0 := by
          cases q : (segs e S L m (k + (L - k))).length with
          | zero => rfl
          | succ j => rw [q, Nat.add_mul] at ih; omega
        rw [this]; omega
    · rw [if_neg hk]; simp; omega
end M

/-! More of the logic, for the laws. -/
namespace Lg
open PySem PySem.Spec PyProof.Rows L2 Wr
section
variable {K : PySem.W.Frag} {ds : List (Option Da)} {rs : List Rs} {tl te : TE} {jj : Nat}
/-- a list made of a list's items -/
theorem lcA {α : Type} (mk : α → Da) (inj : ∀ x y, mk x = mk y → x = y) (g : α → Da) {L : List α} (h : Ev K rs tl ds (.list (L.map mk)) rs) (hz : L.length ≤ 40000)
    (he : ∀ x Dl acc, x ∈ L → Ev K (ptR Dl acc :: rs) te ((ds.set jj none).set jj (some (mk x))) (g x) (ptR Dl acc :: rs)) : Ev K rs (tLc (iList K tl) (gName jj) tYes te [jj]) ds (.list (L.map g)) rs := by
  classical
  let f : Da → Da := fun d => if h : ∃ x, mk x = d then g h.choose else d
  have hf : ∀ x, f (mk x) = g x := fun x => by
    have hx : ∃ y, mk y = mk x := ⟨x, rfl⟩
    show (if h : ∃ y, mk y = mk x then g h.choose else mk x) = g x
    rw [dif_pos hx, inj _ _ hx.choose_spec]
  refine is_ (lcL (fun _ => true) f h (by rw [List.length_map]; exact hz) (fun _ _ _ _ => fun σ F H vs o Q q => q F H (Sub.refl F) o) (fun x Dl acc hm _ => ?_)) ?_
  · obtain ⟨y, hy, rfl⟩ := List.mem_map.mp hm
    rw [hf]
    exact he y Dl acc hy
  · rw [List.filter_eq_self.mpr (fun _ _ => rfl), List.map_map]
    congr 1
    refine List.map_congr_left fun x _ => ?_
    exact hf x
theorem int_inj : ∀ {l m : List Int}, l.map Da.int = m.map Da.int → l = m
  | [], [], _ => rfl
  | [], b :: m, h => by cases h
  | a :: l, [], h => by cases h
  | a :: l, b :: m, h => by
    rw [List.map_cons, List.map_cons] at h
    injection h with h1 h2
    injection h1 with h1
    rw [h1, int_inj h2]
theorem sg_inj (s t : M.Seg) (h : sg s = sg t) : s = t := by
  obtain ⟨a1, a2, a3, a4, a5, a6, a7, a8⟩ := s
  obtain ⟨b1, b2, b3, b4, b5, b6, b7, b8⟩ := t
  unfold sg ti at h
  injection h with h
  simp only [List.cons.injEq, Da.int.injEq, Da.tup.injEq, and_true] at h
  obtain ⟨h1, h2, h3, h4, h5, h6, h7, h8⟩ := h
  rw [h1, h2, h3, h4, h5, h6, h7, int_inj h8]
theorem lsg_map (l : List M.Seg) : lsg (l.map some) = .list (l.map sg) := by
  unfold lsg
  rw [List.map_map]
  rfl
/-- from the segments that went: ints, bools -/
theorem lcSi (g : M.Seg → Int) {l : List M.Seg} (h : Ev K rs tl ds (lsg (l.map some)) rs) (hz : l.length ≤ 40000)
    (he : ∀ s Dl acc, s ∈ l → Ev K (ptR Dl acc :: rs) te ((ds.set jj none).set jj (some (sg s))) (.int (g s)) (ptR Dl acc :: rs)) : Ev K rs (tLc (iList K tl) (gName jj) tYes te [jj]) ds (li (l.map g)) rs :=
  is_ (lcA sg sg_inj (fun s => .int (g s)) (is_ h (lsg_map l)) hz he) (by unfold li; rw [List.map_map]; rfl)
theorem lcSb (g : M.Seg → Bool) {l : List M.Seg} (h : Ev K rs tl ds (lsg (l.map some)) rs) (hz : l.length ≤ 40000)
    (he : ∀ s Dl acc, s ∈ l → Ev K (ptR Dl acc :: rs) te ((ds.set jj none).set jj (some (sg s))) (.bl (g s)) (ptR Dl acc :: rs)) : Ev K rs (tLc (iList K tl) (gName jj) tYes te [jj]) ds (.list ((l.map g).map Da.bl)) rs :=
  is_ (lcA sg sg_inj (fun s => .bl (g s)) (is_ h (lsg_map l)) hz he) (by rw [List.map_map]; rfl)
end
end Lg
namespace M
/-- what is given, as it is -/
theorem given_eq {e e' : EndS} {now : Int} {l : List Seg} (h : Giv e now l e') (hl : l.length < 40) : given e now 40 = (e', l.map some) := given_of h hl
theorem lop_rg (ns : List Int) (b : Int) : (0 ≤ mix ns b % 65536 ∧ mix ns b % 65536 ≤ 65535) ∧ (0 ≤ lfirst (mix ns b) ∧ lfirst (mix ns b) ≤ 4294967295) := ⟨by omega, lfirst_range ⟨mix_lo _ _, mix_hi _ _⟩⟩
end M
namespace M
/-- an open end -/
abbrev opX (A B f u0 g W mo : Int) : EndS :=
  { ours := A, theirs := B, first := f, state := .opn, una := u0, nxt := u0, synced := true, rcv := g, wnd := W, told := g, told_by := u0, most := mo, out := [], pile := Pile0, fin := false, fin_gone := false, reset := none, owes_syn := false, owes_answer := false, since := 0, wait := 1000, tries := 0, probing := false, error := .none }
structure Rg (A B u0 g : Int) : Prop where
  A : 0 ≤ A ∧ A ≤ 65535
  B : 0 ≤ B ∧ B ≤ 65535
  u0 : 0 ≤ u0 ∧ u0 ≤ 4294967295
  g : 0 ≤ g ∧ g ≤ 4294967295
theorem lop_ex (ns : List Int) (b W m : Int) (p : PySem.Addr) : ∃ A B f u0 g, Rg A B u0 g ∧ Lg.lopD ns b p = .tup [.ref p, Lg.ti [A, B], .int u0, .int g] ∧ Lg.lop ns b W m = opX A B f u0 g W (if decide (0 < m) = true then m else 12) :=
  ⟨_, _, _, _, _, ⟨by omega, by omega, plus_rg _ _, plus_rg _ _⟩, rfl, rfl⟩
theorem plus0 {u : Int} (h : 0 ≤ u ∧ u ≤ 4294967295) : plus u 0 = u := by unfold plus; omega
theorem write_opX {A B f u0 g W mo : Int} {tk : List Int} (h : tk.length ≤ 64) : E.write (opX A B f u0 g W mo) tk = ({ opX A B f u0 g W mo with out := tk }, (tk.length : Int)) := by
  have e : mn (tk.length : Int) 64 = (tk.length : Int) := by unfold mn; split <;> omega
  simp [E.write, E.inS, e, sl_all]
theorem out_opX {A B f u0 g W mo : Int} {tk : List Int} (h : tk.length ≤ 64) (hu : 0 ≤ u0 ∧ u0 ≤ 4294967295) : Out { opX A B f u0 g W mo with out := tk } 0 :=
  ⟨⟨rfl, rfl⟩, rfl, hu, (plus0 hu).symm, Nat.zero_le _, by show tk.length ≤ _; omega⟩
end M
namespace Wr
open PySem PySem.Spec PyProof.Rows L2
theorem call_lenK {X : Cx} {K : PySem.W.Frag} (h : X.K = K) : CallR X (.builtin "len") (Lg.rLn K) := h ▸ call_len_seq
end Wr
namespace Lg
open PySem PySem.Spec PyProof.Rows L2 Wr
section
variable {K : PySem.W.Frag} {ds : List (Option Da)} {rs rs1 rs2 : List Rs} {ta tb : TE}
theorem neSg {l m : M.Seg} (ha : Ev K rs ta ds (sg l) rs1) (hb : Ev K rs1 tb ds (sg m) rs2) : Ev K rs (tOp (rNeD K) ta tb) ds (.bl (!decide (l = m))) rs2 := eqv_sg l m ▸ neD ha hb (flat_sg l) (flat_sg m) (shaped_sg l) (shaped_sg m)
end
end Lg
namespace Lg
open PySem PySem.Spec PyProof.Rows L2 Wr
section
variable {K : PySem.W.Frag} {F0 : Hp} {D : Ends} {ds : List (Option Da)} {rs rs1 : List Rs} {te : TE} {tw : TS} {ii : Nat}
theorem g_forL1 {l : List Da} (h : Ev K rs te ds (.list l) rs1) (I : Nat → List (Option Da) → List Rs → Prop) (h0 : I 0 ds rs1)
    (hs : ∀ F1 (i : Nat) x ds rs, Sub F0 F1 → l[i]? = some x → I i ds rs → G K F1 tw { D with nx := Post K F1 (I (i + 1)), ct := Post K F1 (I (i + 1)), bk := D.nx } (ds.set ii (some x)) rs)
    (hd : ∀ ds rs, I l.length ds rs → G K F0 tNext D ds rs) : G K F0 (tFor (iList K te) (gName ii) tw) D ds rs := g_forL (tz := tNext) h I h0 hs hd
/-- not l as a value -/
theorem notLi {l : List Int} {ta : TE} (h : Ev K rs ta ds (li l) rs1) : Ev K rs (tNotT K ta) ds (.bl l.isEmpty) rs1 := fun σ F H vs o Q q => h σ F H vs o _ fun v F1 H1 s1 dv o1 => by
  obtain ⟨a, rfl, ha⟩ := dv_li dv
  refine ⟨!l.isEmpty, .inl ⟨l.map V.int, .inl (.inl (ow_sub o1 _ _ ha)), by cases l <;> rfl⟩, ?_⟩
  · rw [Bool.not_not]
    exact q _ F1 H1 s1 rfl o1
end
end Lg
namespace M
theorem sum_take {l : List Seg} {j : Nat} {s : Seg} {f : Seg → Int} (h : l[j]? = some s) : ((l.take j).map f).sum + f s = ((l.take (j + 1)).map f).sum := by
  obtain ⟨hj, e⟩ := List.getElem?_eq_some_iff.mp h
  rw [List.take_succ, h, List.map_append, List.sum_append]
  simp
end M
namespace Lg
open PySem PySem.Spec PyProof.Rows L2 Wr
section
variable {K : PySem.W.Frag} {ds : List (Option Da)} {rs rs1 rs2 : List Rs} {ta tb : TE} {i : Int}
theorem neTi {l m : List Int} (ha : Ev K rs ta ds (ti l) rs1) (hb : Ev K rs1 tb ds (ti m) rs2) : Ev K rs (tOp (rNeD K) ta tb) ds (.bl (!decide (l = m))) rs2 := eqv_ti l m ▸ neD ha hb (flat_ti l) (flat_ti m) (shaped_ti l) (shaped_ti m)
/-- [x] * i -/
theorem repLi {x : Int} (ha : Ev K rs ta ds (li [x]) rs1) (hb : Ev K rs1 tb ds (.int i) rs2) (hi : 0 ≤ i ∧ i ≤ 1000) : Ev K rs (tOp rRep ta tb) ds (li (List.replicate i.toNat x)) rs2 :=
  op ha hb fun v y F H hx hy o Q q => by
    obtain ⟨a, rfl, h1⟩ := dv_li hx
    refine ⟨a, i, [V.int x], rfl, hy, ow_sub o _ _ h1, by omega, by omega, ?_, fun p hp => ?_⟩
    · show 1 * i.toNat ≤ sizeLine
      have : (1000 : Nat) ≤ sizeLine := by decide
      omega
    · have e : (List.replicate i.toNat [V.int x]).flatten = (List.replicate i.toNat x).map V.int := by
        rw [List.map_replicate]
        simp
      rw [e]
      obtain ⟨o2, s2⟩ := ow_new (u := .lst ((List.replicate i.toNat x).map V.int)) o hp
      exact q _ _ _ s2 (dv_li_mk upd_same) o2
end
def madeD (p : Addr) (A B u0 g : Int) : Da := .tup [.ref p, ti [A, B], .int u0, .int g]
end Lg

/-! All that goes at one time: data, the fin, an answer. -/
namespace M
def fseg (e : EndS) (k : Nat) : Seg := ⟨e.ours, e.theirs, plus e.una (k : Int), e.rcv, 17, room e.pile, 0, []⟩
def aseg (e : EndS) : Seg := ⟨e.ours, e.theirs, e.nxt, e.rcv, 16, room e.pile, 0, []⟩
def aftF (e : EndS) (k : Nat) (now : Int) (k2 : Nat) : EndS := { aft e k now k2 with fin_gone := true }
theorem fin_step {e : EndS} {k W : Nat} {now : Int} (h : Out e k) (hk : k = e.out.length) (he : E.inS e.state E.ending = true) (hf : e.fin_gone = false) (hW : e.wnd = (W : Int)) (hlt : k < W) (ht : k = 0 ∨ now - e.since < e.wait) :
    E.send e now = (aftF e k now (k + 1), put (fseg e k)) := by
  have o := h.outstanding
  have u := h.unsent
  rw [send_fin h.live (by rcases ht with z | z; simp [o, z]; simp [o]; omega) (by rw [u]; omega) he hf (by rw [o, hW]; omega)]
  have e2 : E.gone { e with fin_gone := true } now 1 = aftF e k now (k + 1) := by
    have o' : E.outstanding { e with fin_gone := true } = (k : Int) := o
    unfold E.gone
    rw [o']
    unfold aftF aft E.gone2
    by_cases z : k = 0
    · subst z
      simp [start, h.nxt, plus_plus]
    · have : ¬ (k : Int) = 0 := by omega
      simp [z, h.nxt, plus_plus]
  unfold E.fin_goes
  rw [e2]
  unfold E.made fseg
  rw [h.nxt]
  rfl
/-- behind the fin nothing more goes -/
theorem fin_quiet2 {e : EndS} {n : Nat} {now : Int} (hL : Live e) (hs : e.synced = true) (hu : 0 ≤ e.una ∧ e.una ≤ 4294967295) (hn : e.nxt = plus e.una ((n + 1 : Nat) : Int)) (hl : e.out.length = n) (h1000 : n ≤ 1000) (hf : e.fin_gone = true) (ht : now - e.since < e.wait) : E.send e now = E.answer_goes { e with probing := false } := by
  have o : E.outstanding e = ((n + 1 : Nat) : Int) := by unfold E.outstanding; rw [hn, offset_plus hu (by omega)]
  have u : E.unsent e = 0 := by
    unfold E.unsent
    rw [hs, o, hl]
    simp only [Bool.not_true, Bool.false_eq_true, if_false]
    unfold mx
    split <;> omega
  refine send_idle hL (by simp [o]; omega) ?_
  unfold E.has_more
  rw [u, hf]
  simp
theorem ok_fseg {e : EndS} {k : Nat} (f : Fit e) : Ok (fseg e k) := ok_mk f.ours f.theirs (plus_rg _ _) f.rcv (by decide) f.room (.inl rfl) (Nat.zero_le _) by_nil
theorem ok_aseg {e : EndS} (f : Fit e) (h : 0 ≤ e.nxt ∧ e.nxt ≤ 4294967295) : Ok (aseg e) := ok_mk f.ours f.theirs h f.rcv (by decide) f.room (.inl rfl) (Nat.zero_le _) by_nil
/-- no data, no fin to go: the answer, if owed -/
theorem giv_rest {e : EndS} {k W S : Nat} {now : Int} (h : Out e k) (f : Fit e) (hS : mn e.most 16 = (S : Int)) (hW : e.wnd = (W : Int)) (hk : k = min e.out.length W) (hp : 0 < k ∨ 0 < W) (hne : E.inS e.state E.ending = true → e.fin_gone = true ∨ k < e.out.length ∨ W ≤ k) (ht : k = 0 ∨ now - e.since < e.wait) :
    Giv e now (if e.owes_answer = true then [aseg e] else []) { e with probing := false, owes_answer := false } := by
  have o := h.outstanding
  have u := h.unsent
  have hm := many_nat h hS hW
  have hm0 : E.many_new e ≤ 0 := by rw [hm]; omega
  have hna : (decide (0 < E.outstanding e) && decide (e.wait ≤ now - e.since)) = false := by rcases ht with z | z; simp [o, z]; simp [o]; omega
  have key : ∀ e2 : EndS, e2 = { e with probing := e2.probing, owes_answer := e2.owes_answer } → E.send e2 now = E.answer_goes { e2 with probing := false } := by
    intro e2 he2
    have hL2 : Live e2 := by rw [he2]; exact ⟨h.live.reset, h.live.state⟩
    have o2 : E.outstanding e2 = (k : Int) := by rw [he2]; exact o
    have u2 : E.unsent e2 = ((e.out.length - k : Nat) : Int) := by rw [he2]; exact u
    have m2 : E.many_new e2 ≤ 0 := by rw [he2]; exact hm0
    have na2 : (decide (0 < E.outstanding e2) && decide (e2.wait ≤ now - e2.since)) = false := by rw [he2]; exact hna
    have w2 : e2.wnd = (W : Int) := by rw [he2]; exact hW
    by_cases hn : e.out.length = k
    · by_cases hmo : E.has_more e2 = false
      · exact send_idle hL2 na2 hmo
      · refine send_full hL2 na2 ⟨m2, .inr ?_⟩ (by rw [o2, w2]; omega)
        rw [o2, w2]
        have s2 : e2.state = e.state := by rw [he2]
        have f2 : e2.fin_gone = e.fin_gone := by rw [he2]
        have he : E.inS e.state E.ending = true ∧ e.fin_gone = false := by
          unfold E.has_more at hmo
          rw [u2, if_neg (by simp; omega), s2, f2] at hmo
          simpa using hmo
        rcases hne he.1 with q | q | q
        · rw [he.2] at q; cases q
        · omega
        · omega
    · exact send_full hL2 na2 ⟨m2, .inl (by rw [u2]; have := h.le; omega)⟩ (by rw [o2, w2]; omega)
  have s1 := key e rfl
  rw [ans_live (by exact h.live.state)] at s1
  have s2 := key { e with probing := false, owes_answer := false } rfl
  rw [ans_live (by exact h.live.state), if_neg (by simp)] at s2
  have hnx : 0 ≤ e.nxt ∧ e.nxt ≤ 4294967295 := by rw [h.nxt]; exact plus_rg _ _
  cases ho : e.owes_answer
  · rw [if_neg (by simp)]
    rw [if_neg (by simp [ho])] at s1
    refine .nil ?_
    rw [s1, ← ho]
  · rw [if_pos rfl]
    rw [if_pos (by simp [ho])] at s1
    exact .cons s1 (ok_aseg f hnx) (.nil s2)
/-- whether the fin goes behind so many bytes -/
def fgo (e : EndS) (W : Nat) : Bool := E.inS e.state E.ending && (!e.fin_gone && decide (e.out.length < W))
def flowL (e : EndS) (S W k : Nat) : List Seg :=
  segs e S (min e.out.length W) (min e.out.length W) k ++ (if fgo e W = true then [fseg e e.out.length] else if (decide (k = min e.out.length W) && e.owes_answer) = true then [aseg e] else [])
def flowE (e : EndS) (now : Int) (W k : Nat) : EndS :=
  if fgo e W = true then aftF e k now (e.out.length + 1) else if k < min e.out.length W then aft e k now (min e.out.length W) else { e with probing := false, owes_answer := false }
theorem giv_flow {e : EndS} {k W S : Nat} {now : Int} (h : Out e k) (f : Fit e) (hg : E.inS e.state E.giving = true) (hS : mn e.most 16 = (S : Int)) (h0 : 0 < S) (h16 : S ≤ 16) (hW : e.wnd = (W : Int)) (hk : k ≤ min e.out.length W) (hp : 0 < k ∨ 0 < W) (ht : k = 0 ∨ now - e.since < e.wait) :
    Giv e now (flowL e S W k) (flowE e now W k) := by
  have hse : ∀ m, segs e S (min e.out.length W) m (min e.out.length W) = [] := fun m => by
    cases m with
    | zero => rfl
    | succ m => unfold segs; rw [if_neg (by omega)]
  -- from the state behind the data
  have tail : ∀ (e1 : EndS), Out e1 (min e.out.length W) → e1.out = e.out → e1.state = e.state → e1.fin_gone = e.fin_gone → e1.wnd = e.wnd → e1.most = e.most → e1.ours = e.ours → e1.theirs = e.theirs → e1.una = e.una → e1.rcv = e.rcv → e1.pile = e.pile → (min e.out.length W = 0 ∨ now - e1.since < e1.wait) →
      Giv e1 now (if fgo e W = true then [fseg e e.out.length] else if e1.owes_answer = true then [aseg e1] else []) (if fgo e W = true then aftF e1 (min e.out.length W) now (e.out.length + 1) else { e1 with probing := false, owes_answer := false }) := by
    intro e1 o1 ho hs hfg hw hm h1 h2 h3 h4 h5 ht1
    have f1 : Fit e1 := ⟨by rw [h1]; exact f.ours, by rw [h2]; exact f.theirs, by rw [h4]; exact f.rcv, by rw [h5]; exact f.room, by rw [ho]; exact f.out⟩
    by_cases hc : fgo e W = true
    · rw [if_pos hc, if_pos hc]
      unfold fgo at hc
      simp only [Bool.and_eq_true, Bool.not_eq_true', decide_eq_true_eq] at hc
      obtain ⟨c1, c2, c3⟩ := hc
      have hmin : min e.out.length W = e.out.length := by omega
      rw [hmin] at o1 ht1 ⊢
      have st := fin_step (W := W) (now := now) o1 (by rw [ho]) (by rw [hs]; exact c1) (by rw [hfg]; exact c2) (by rw [hw]; exact hW) c3 ht1
      have ef : fseg e1 e.out.length = fseg e e.out.length := by unfold fseg; rw [h1, h2, h3, h4, h5]
      rw [ef] at st
      have hfl : now - (aftF e1 e.out.length now (e.out.length + 1)).since < (aftF e1 e.out.length now (e.out.length + 1)).wait := by
        show now - (if e.out.length = 0 then now else e1.since) < (if e.out.length = 0 then 1000 else e1.wait)
        by_cases z : e.out.length = 0
        · rw [if_pos z, if_pos z]; omega
        · rw [if_neg z, if_neg z]; rcases ht1 with q | q; exact absurd q z; exact q
      have q2 := fin_quiet2 (e := aftF e1 e.out.length now (e.out.length + 1)) (n := e.out.length) (now := now) ⟨o1.live.reset, o1.live.state⟩ o1.syn o1.una rfl (by show e1.out.length = _; rw [ho]) (by have := h.sz; omega) rfl hfl
      rw [ans_live (by exact o1.live.state), if_neg (by show ¬ false = true; simp)] at q2
      exact .cons st (ok_fseg f) (.nil q2)
    · rw [if_neg hc, if_neg hc]
      exact giv_rest (S := S) (W := W) o1 f1 (by rw [hm]; exact hS) (by rw [hw]; exact hW) (by rw [ho]) (by omega) (fun he => by
        rw [hs] at he
        rw [hfg, ho]
        have hc2 : ¬ (e.fin_gone = false ∧ e.out.length < W) := fun z => hc (by unfold fgo; rw [he, z.1]; simp [z.2])
        cases q : e.fin_gone with
        | true => exact .inl rfl
        | false =>
          right
          have : ¬ e.out.length < W := fun z => hc2 ⟨q, z⟩
          omega) (by
        rcases ht1 with q | q
        · exact .inl q
        · exact .inr q)
  by_cases hlt : k < min e.out.length W
  · have gd := goes_data (S := S) (W := W) now (min e.out.length W) e k h f hg hS h0 h16 hW ht (by omega) hlt
    have ho := h.aft now (k2 := min e.out.length W) (Nat.min_le_left _ _)
    have hfl : min e.out.length W = 0 ∨ now - (aft e k now (min e.out.length W)).since < (aft e k now (min e.out.length W)).wait := by
      right
      show now - (if k = 0 then now else e.since) < (if k = 0 then 1000 else e.wait)
      by_cases z : k = 0
      · rw [if_pos z, if_pos z]; omega
      · rw [if_neg z, if_neg z]; rcases ht with q | q; exact absurd q z; exact q
    have t1 := tail (aft e k now (min e.out.length W)) ho rfl rfl rfl rfl rfl rfl rfl rfl rfl rfl hfl
    have t2 := gd _ _ t1
    unfold flowL flowE
    rw [if_neg (show ¬ (decide (k = min e.out.length W) && e.owes_answer) = true by simp; omega), if_pos hlt]
    by_cases hc : fgo e W = true
    · rw [if_pos hc] at t2 ⊢
      rw [if_pos hc] at t2 ⊢
      have : aftF (aft e k now (min e.out.length W)) (min e.out.length W) now (e.out.length + 1) = aftF e k now (e.out.length + 1) := by
        unfold aftF
        rw [aft_aft e k now (by omega)]
      rw [this] at t2
      exact t2
    · rw [if_neg hc] at t2 ⊢
      rw [if_neg hc] at t2 ⊢
      rw [if_neg (show ¬ (aft e k now (min e.out.length W)).owes_answer = true by show ¬ false = true; simp)] at t2
      exact t2
  · have hke : k = min e.out.length W := by omega
    have t1 := tail e (by rw [← hke]; exact h) rfl rfl rfl rfl rfl rfl rfl rfl rfl rfl (by rw [← hke]; exact ht)
    unfold flowL flowE
    rw [if_neg hlt, decide_eq_true hke, Bool.true_and]
    have e0 : segs e S (min e.out.length W) (min e.out.length W) k = [] := by rw [hke]; exact hse _
    rw [e0, List.nil_append]
    rw [← hke] at t1
    exact t1
end M
namespace M
theorem flowL_len {e : EndS} {S W k : Nat} (hS : 4 ≤ S) (h16 : S ≤ 16) (hL : min e.out.length W ≤ 64) : (flowL e S W k).length < 40 := by
  have sl := segs_len e S (min e.out.length W) (min e.out.length W) k (by omega)
  have h4 := Nat.mul_le_mul_left (segs e S (min e.out.length W) (min e.out.length W) k).length hS
  unfold flowL
  rw [List.length_append]
  have e1 : (segs e S (min e.out.length W) (min e.out.length W) k).length ≤ 20 := by omega
  generalize (segs e S (min e.out.length W) (min e.out.length W) k).length = z at e1
  split
  · simp only [List.length_singleton]; omega
  · split
    · simp only [List.length_singleton]; omega
    · simp only [List.length_nil]; omega
end M
namespace M
theorem close_out (e : EndS) : (E.close e).1.out = e.out ∧ (E.close e).1.reset = e.reset ∧ (E.close e).1.pile = e.pile := by
  unfold E.close
  split
  · exact ⟨rfl, rfl, rfl⟩
  · split
    · exact ⟨rfl, rfl, rfl⟩
    · split
      · exact ⟨rfl, rfl, rfl⟩
      · split <;> exact ⟨rfl, rfl, rfl⟩
theorem close_pile (e : EndS) : (E.close e).1.pile = e.pile := (close_out e).2.2
theorem sz_close {e : EndS} (h : Sz e) : Sz (E.close e).1 := by
  obtain ⟨h1, h2, _⟩ := close_out e
  exact ⟨by rw [h1]; exact h.out, fun s hs => h.reset s (by rw [← h2]; exact hs)⟩
theorem given_pile (e : EndS) (now : Int) : ∀ n, (given e now n).1.pile = e.pile := by
  intro n
  induction n generalizing e with
  | zero => rfl
  | succ n ih =>
    rw [given_succ]
    split
    · exact (send_out e now).2.2
    · show (given (E.send e now).1 now n).1.pile = _
      rw [ih, (send_out e now).2.2]
theorem sz_given {e : EndS} {now : Int} (h : Sz e) : ∀ {n : Nat}, Sz (given e now n).1 := by
  intro n
  induction n generalizing e with
  | zero => exact h
  | succ n ih =>
    rw [given_succ]
    split
    · exact sz_send h
    · exact ih (sz_send h)
end M

/-! two things owned: either can be taken up; an end made within an expression -/
namespace Lg
open PySem PySem.Spec PyProof.Rows L2 Wr
section
variable {K : PySem.W.Frag} {F0 : Hp} {D : Ends} {ds : List (Option Da)} {rs rs1 rs2 r r' : List Rs} {a b c a' b' c' : Rs} {te ta tb : TE} {tz tw : TS} {d : Da} {ii : Nat} {l m : List Da}
theorem ev_sw (h : Ev K (b :: a :: r) te ds d (b' :: a' :: r')) : Ev K (a :: b :: r) te ds d (a' :: b' :: r') := fun σ F H vs o Q q => h σ F H vs (ow_swap o) Q fun v F1 H1 s1 dv o1 => q v F1 H1 s1 dv (ow_swap o1)
theorem g_sw (h : G K F0 tw D ds (b :: a :: r)) : G K F0 tw D ds (a :: b :: r) := fun σ F H s vs o => h σ F H s vs (ow_swap o)
theorem g_rid (h : G K F0 tw D ds r) : G K F0 tw D ds (a :: r) := fun σ F H s vs o => h σ F H s vs (ow_tail o)
theorem g_rid2 (h : G K F0 tw D ds (a :: r)) : G K F0 tw D ds (a :: b :: r) := g_sw (g_rid h)
/-- an expression that makes what is owned, at an address of its own -/
def EvE (K : PySem.W.Frag) (rs : List Rs) (t : TE) (ds : List (Option Da)) (f : Addr → Da) (g : Addr → List Rs) : Prop :=
  ∀ σ F H, Vs K F σ ds → Ow F rs H → ∀ Q : VK, (∀ p v F' H', Sub F F' → Dv K F' (f p) v → Ow F' (g p) H' → Q v H') → t σ H Q
variable {f : Addr → Da} {g g' : Addr → List Rs} {h : Addr → List Da}
theorem call_E {R : List Da → List Rs → (Addr → Da) → (Addr → List Rs) → Prop} {E : XK} {tA : TA} (h : EvA K rs tA ds l rs1) (hR : R l rs1 f g) : EvE K rs (tCall (SpE K R) [] E tA) ds f g := fun σ F H vs o Q q =>
  h σ F H vs o _ fun ws F1 H1 s1 dw o1 => ⟨F1, l, rs1, f, g, by rw [List.append_nil]; exact dw, o1, hR, fun p v F2 H2 s2 dv o2 => q p v F2 H2 (s1.trans s2) dv o2⟩
theorem tupE1 (h : EvE K rs te ds f g) : EvE K rs (tTup (tCons te tNil)) ds (fun p => .tup [f p]) g := fun σ F H vs o Q q =>
  h σ F H vs o _ fun p v F1 H1 s1 dv o1 => ⟨Evl.sz_of (show 1 ≤ 100000 by decide), fun a ha => by
    obtain ⟨o2, x⟩ := ow_new (u := .tup [v]) o1 ha
    exact q p _ _ _ (s1.trans x) ⟨a, [v], rfl, .inl (.inl upd_same), DvAll.mono x _ _ ⟨v, [], rfl, dv, rfl⟩⟩ o2⟩
theorem catE (ha : EvE K rs ta ds (fun p => .tup (h p)) g) (hb : ∀ p, Ev K (g p) tb ds (.tup m) (g' p)) (hz : ∀ p, (h p).length + m.length ≤ 100000) : EvE K rs (tOp (rCatA K) ta tb) ds (fun p => .tup (h p ++ m)) g' := fun σ F H vs o Q q =>
  ha σ F H vs o _ fun p x F1 H1 s1 dx o1 => hb p σ F1 H1 (vs.mono s1) o1 _ fun y F2 H2 s2 dy o2 => by
    obtain ⟨a, xs, rfl, h1, h2⟩ := Dv.mono s2 _ _ dx
    obtain ⟨b, ys, rfl, h3, h4⟩ := dy
    have q : ∀ v F' H', Sub F2 F' → Dv K F' (.tup (h p ++ m)) v → Ow F' (g' p) H' → Q v H' := fun v F' H' s => q p v F' H' ((s1.trans s2).trans s)
    refine ⟨a, b, xs, ys, rfl, rfl, sqt_up (ow_sub o2) h1, sqt_up (ow_sub o2) h3, by rw [dvAll_len h2, dvAll_len h4]; exact Evl.sz_of (hz p), fun e => ?_, fun _ e => ?_, fun _ _ p2 hp => ?_⟩
    · subst e
      have : h p = [] := by
        have := dvAll_len h2
        exact List.length_eq_zero_iff.mp this.symm
      rw [this] at q
      exact q _ F2 H2 (Sub.refl F2) ⟨b, ys, rfl, h3, h4⟩ o2
    · subst e
      have : m = [] := by
        have := dvAll_len h4
        exact List.length_eq_zero_iff.mp this.symm
      subst this
      rw [List.append_nil] at q
      exact q _ F2 H2 (Sub.refl F2) ⟨a, xs, rfl, h1, h2⟩ o2
    · obtain ⟨o3, x⟩ := ow_new (u := .tup (xs ++ ys)) o2 hp
      exact q _ _ _ x ⟨p2, _, rfl, .inl (.inl upd_same), DvAll.mono x _ _ (dvAll_app h2 h4)⟩ o3
theorem g_asgEx (h : EvE K rs te ds f g) (k : ∀ p, G K F0 tz D (ds.set ii (some (f p))) (g p)) : G K F0 (tSeq (tAsg te (gName ii)) tz) D ds rs := fun σ F H s vs o =>
  h σ F H vs o _ fun p v F1 H1 s1 dv o1 => k p _ F1 H1 (s.trans s1) ((vs.mono s1).set dv) o1
theorem g_asgEx1 (h : EvE K rs te ds f g) (k : ∀ p, G K F0 tNext D (ds.set ii (some (f p))) (g p)) : G K F0 (tAsg te (gName ii)) D ds rs := g_asgEx (tz := tNext) h k
/-- a new list of its own that nobody changes any more is a value -/
theorem frz (h : EvE K rs te ds (fun p => .ref p) (fun p => ol K p l :: rs1)) : Ev K rs te ds (.list l) rs1 := fun σ F H vs o Q q => h σ F H vs o Q fun p v F1 H1 s1 dv o1 => by
  obtain ⟨F2, x, o2, d2⟩ := ol_freeze o1
  rw [show v = V.ref p from dv]
  exact q _ F2 H1 (s1.trans x) d2 o2
theorem frzI {n : List Int} (h : EvE K rs te ds (fun p => .ref p) (fun p => ol K p (n.map Da.int) :: rs1)) : Ev K rs te ds (li n) rs1 := frz h
/-- x[i] = e, and what follows -/
theorem g_setL {n : Nat} {p : Addr} (hi : ds[ii]? = some (some (.ref p))) (h : Ev K (ol K p l :: rs) te ds d (ol K p l :: rs)) (hb : Ev K (ol K p l :: rs) tb ds (.int (n : Int)) (ol K p l :: rs)) (hx : n < l.length)
    (k : G K F0 tz D ds (ol K p (l.set n d) :: rs)) : G K F0 (tSeq (tAsg te (gSub (tVar ii) tb rSetL)) tz) D ds (ol K p l :: rs) := fun σ F H s vs o =>
  h σ F H vs o _ fun v F1 H1 s1 dv o1 => by
    refine ⟨_, var_ref vs hi, ?_⟩
    refine hb σ F1 H1 (vs.mono s1) o1 _ fun y F2 H2 s2 dy o2 => ?_
    obtain ⟨xs, hxs, o3⟩ := ol_out o2
    refine ⟨p, xs, (n : Int), n, rfl, dy, pt_ok.mp (own_head o3), ?_, ?_⟩
    · unfold ixN
      rw [if_pos (by omega), if_pos (by rw [dvAll_len hxs]; omega), Int.toNat_natCast]
    · exact k σ F2 _ (s.trans (s1.trans s2)) (vs.mono (s1.trans s2)) (ol_mk (own_upd o3) (dvAll_set n hxs (Dv.mono s2 _ _ dv)))
theorem g_seti {n : Nat} {v : Int} {p : Addr} {row : List Int} (hi : ds[ii]? = some (some (.ref p))) (h : Ev K (ol K p (row.map Da.int) :: rs) te ds (.int v) (ol K p (row.map Da.int) :: rs)) (hb : Ev K (ol K p (row.map Da.int) :: rs) tb ds (.int (n : Int)) (ol K p (row.map Da.int) :: rs)) (hx : n < row.length)
    (k : G K F0 tz D ds (ol K p ((row.set n v).map Da.int) :: rs)) : G K F0 (tSeq (tAsg te (gSub (tVar ii) tb rSetL)) tz) D ds (ol K p (row.map Da.int) :: rs) := g_setL hi h hb (by rw [List.length_map]; exact hx) (by rw [← List.map_set]; exact k)
end
end Lg

namespace Lg
open PySem PySem.Spec PyProof.Rows L2 Wr
section
variable {K : PySem.W.Frag} {ds : List (Option Da)} {rs rs1 rs2 : List Rs} {t : TT} {te : TE} {b b' : Bool} {d d' : Da}
theorem evT_is (h : EvT K rs t ds b rs1) (hb : b = b') (hr : rs1 = rs2) : EvT K rs t ds b' rs2 := hr ▸ hb ▸ h
theorem ev_is (h : Ev K rs te ds d rs1) (hd : d = d') (hr : rs1 = rs2) : Ev K rs te ds d' rs2 := hr ▸ hd ▸ h
end
end Lg

/-! an own dict of int keys that holds True; a display of texts -/
namespace M
def addB (l : List Int) (k : Int) : List Int := if decide (k ∈ l) = true then l else l ++ [k]
theorem mem_addB {l : List Int} {k x : Int} : x ∈ addB l k ↔ x = k ∨ x ∈ l := by
  unfold addB
  by_cases h : k ∈ l
  · rw [if_pos (decide_eq_true h)]
    constructor
    · exact .inr
    · rintro (rfl | z)
      · exact h
      · exact z
  · rw [if_neg (by simp [h]), List.mem_append, List.mem_singleton]
    exact Or.comm
theorem addB_len {l : List Int} {k : Int} : (addB l k).length ≤ l.length + 1 := by
  unfold addB; split
  · omega
  · rw [List.length_append]; exact Nat.le_refl _
end M
namespace Lg
open PySem PySem.Spec PyProof.Rows L2 Wr
def kB (l : List Int) : List (Key × V) := l.map fun k => (Sum.inl k, V.bl true)
theorem kB_val (k : Int) : ∀ l : List Int, valV (kB l) (Sum.inl k) = if decide (k ∈ l) = true then some (.bl true) else none
  | [] => rfl
  | a :: l => by
    by_cases h : a = k
    · subst h
      rw [if_pos (decide_eq_true (List.mem_cons_self ..))]
      exact valV_pos (p := ((Sum.inl a : Key), V.bl true)) rfl
    · have e : valV (kB (a :: l)) (Sum.inl k) = valV (kB l) (Sum.inl k) := valV_neg (p := ((Sum.inl a : Key), V.bl true)) (by
        intro z
        exact h (Sum.inl.inj z))
      rw [e, kB_val k l]
      have : (k ∈ a :: l) ↔ k ∈ l := by
        rw [List.mem_cons]
        constructor
        · rintro (z | z)
          · exact absurd z.symm h
          · exact z
        · exact .inr
      by_cases q : k ∈ l
      · rw [if_pos (decide_eq_true q), if_pos (decide_eq_true (this.mpr q))]
      · rw [if_neg (by simp [q]), if_neg (by rw [decide_eq_true_eq]; exact fun z => q (this.mp z))]
theorem kB_put (l : List Int) (k : Int) : putK (kB l) (Sum.inl k) (.bl true) = kB (M.addB l k) := by
  unfold putK M.addB
  rw [valV_any, kB_val]
  by_cases h : k ∈ l
  · rw [if_pos (decide_eq_true h), if_pos (decide_eq_true h), if_pos (show (some (V.bl true)).isSome = true from rfl)]
    unfold kB
    rw [List.map_map]
    refine List.map_congr_left fun x _ => ?_
    show (if (Sum.inl x : Key) = Sum.inl k then ((Sum.inl x : Key), V.bl true) else (Sum.inl x, V.bl true)) = _
    split <;> rfl
  · rw [if_neg (by simp [h]), if_neg (by simp [h])]
    unfold kB
    rw [List.map_append]
    rfl
def db (K : PySem.W.Frag) (p : Addr) (l : List Int) : Rs := ⟨fun _ => pt p (.dK (kB l)), fun _ _ _ _ h => h⟩
section
variable {K : PySem.W.Frag} {F0 : Hp} {D : Ends} {ds : List (Option Da)} {rs rs1 rs2 : List Rs} {te ta tb ty tx : TE} {tz tw : TS} {d : Da} {ii : Nat} {p : Addr} {l : List Int} {k : Int}
theorem newB : EvX K rs tDNewK ds (fun p => .ref p) (fun p => db K p [] :: rs) := fun σ F H vs o Q k => fun p hp => k p _ F _ (Sub.refl F) rfl (own_swap (own_new o hp))
theorem db_at {F H : Hp} (o : Ow F (db K p l :: rs) H) : H p = some (.dK (kB l)) := ow_at (rs := rs) o
theorem inB (hi : ds[ii]? = some (some (.ref p))) (hk : Ev K (db K p l :: rs) tb ds (.int k) (db K p l :: rs)) : Ev K (db K p l :: rs) (tDIn tb (tVar ii)) ds (.bl (decide (k ∈ l))) (db K p l :: rs) := fun σ F H vs o Q q =>
  hk σ F H vs o _ fun y F1 H1 s1 dy o1 => by
    refine ⟨_, var_ref (vs.mono s1) hi, ?_⟩
    refine ⟨p, _, rfl, .inl ⟨_, Sum.inl k, .inl (db_at o1), dy, rfl⟩, ?_⟩
    rw [kB_val]
    by_cases h : k ∈ l
    · rw [if_pos (decide_eq_true h)]
      exact q _ F1 H1 s1 (by rw [decide_eq_true h]; rfl) o1
    · rw [if_neg (by simp [h])]
      exact q _ F1 H1 s1 (by rw [decide_eq_false h]; rfl) o1
theorem g_putB (hi : ds[ii]? = some (some (.ref p))) (hk : Ev K (db K p l :: rs) tb ds (.int k) (db K p l :: rs)) (hz : l.length < 100000) (kk : G K F0 tz D ds (db K p (M.addB l k) :: rs)) :
    G K F0 (tSeq (sDPut (tVar ii) tb (tC (.bl true))) tz) D ds (db K p l :: rs) := fun σ F H s vs o => by
  refine ⟨_, var_ref vs hi, ?_⟩
  refine hk σ F H vs o _ fun y F1 H1 s1 dy o1 => ?_
  refine ⟨p, _, rfl, .inl ⟨kB l, Sum.inl k, db_at o1, dy, by unfold kB; rw [List.length_map]; exact Evl.sz_lt hz, rfl⟩, ?_⟩
  rw [kB_put]
  exact kk σ F1 _ (s.trans s1) (vs.mono s1) (ow_store (rs := rs) o1)
theorem g_putB1 (hi : ds[ii]? = some (some (.ref p))) (hk : Ev K (db K p l :: rs) tb ds (.int k) (db K p l :: rs)) (hz : l.length < 100000) (kk : G K F0 tNext D ds (db K p (M.addB l k) :: rs)) :
    G K F0 (sDPut (tVar ii) tb (tC (.bl true))) D ds (db K p l :: rs) := g_putB (tz := tNext) hi hk hz kk
/-! a display of texts, looked into -/
def kS (l : List (Str × Str)) : List (Key × V) := l.map fun kv => (Sum.inr kv.1, V.str kv.2)
def trS (l : List (Str × Str)) : List (TE × TE) := l.map fun kv => (tC (.str kv.1), tC (.str kv.2))
theorem pairs_c {σ : L2.St} : ∀ (l : List (Str × Str)) {H : Hp} {Q : List (V × V) → Hp → Prop}, Q (l.map fun kv => (V.str kv.1, V.str kv.2)) H → tPairs (trS l) σ H Q
  | [], _, _, h => h
  | a :: l, _, _, h => pairs_c l (Q := fun ps H3 => _) h
theorem disp_c {σ : L2.St} {H : Hp} {Q : VK} (l : List (Str × Str)) (h15 : l.length ≤ 15) (h : ∀ p, H p = none → Q (.ref p) (upd H p (.dK (mergeK [] (kS l))))) : tDisp (trS l) σ H Q := fun p hp => pairs_c l ⟨upd_same, kS l, by unfold kS; rw [List.map_map]; rfl, by unfold kS; rw [List.length_map]; exact h15, by
    have := h p hp
    have e : upd (upd H p (.dK [])) p (.dK (mergeK [] (kS l))) = upd H p (.dK (mergeK [] (kS l))) := by
      funext x
      unfold upd
      split <;> rfl
    rw [e]
    exact this⟩
theorem getS {y z : Str} (l : List (Str × Str)) (h15 : l.length ≤ 15) (hy : ∀ r, Ev K (r :: rs) ty ds (.str y) (r :: rs)) (hv : valV (mergeK [] (kS l)) (Sum.inr y) = some (.str z)) : Ev K rs (tDGet (tDisp (trS l)) ty) ds (.str z) rs := fun σ F H vs o Q q =>
  disp_c l h15 fun p hp => by
    have o1 : Ow F (ckR (pt p (.dK (mergeK [] (kS l)))) :: rs) (upd H p (.dK (mergeK [] (kS l)))) := own_swap (own_new o hp)
    refine hy _ σ F _ vs o1 _ fun v F1 H1 s1 dv o2 => ?_
    exact ⟨p, .str z, rfl, .inl ⟨_, Sum.inr y, .inl (ow_at o2), dv, hv.symm⟩, q _ F1 H1 s1 rfl (ow_tail o2)⟩
theorem getS2 {y z u : Str} (l : List (Str × Str)) (h15 : l.length ≤ 15) (hy : ∀ r, Ev K (r :: rs) ty ds (.str y) (r :: rs)) (hx : ∀ r, Ev K (r :: rs) tx ds (.str z) (r :: rs)) (hv : (valV (mergeK [] (kS l)) (Sum.inr y)).getD (.str z) = .str u) : Ev K rs (tDGet2 (tDisp (trS l)) ty tx) ds (.str u) rs := fun σ F H vs o Q q =>
  disp_c l h15 fun p hp => by
    have o1 : Ow F (ckR (pt p (.dK (mergeK [] (kS l)))) :: rs) (upd H p (.dK (mergeK [] (kS l)))) := own_swap (own_new o hp)
    refine ⟨p, rfl, .inl ⟨_, .inl (ow_at o1)⟩, ?_⟩
    refine hy _ σ F _ vs o1 _ fun v F1 H1 s1 dv o2 => hx _ σ F1 H1 (vs.mono s1) o2 _ fun w F2 H2 s2 dw o3 => ?_
    refine ⟨_, .inl ⟨_, Sum.inr y, .inl (ow_at o3), Dv.mono s2 _ _ dv, rfl⟩, ?_⟩
    rw [show w = _ from dw, hv]
    exact q _ F2 H2 (s1.trans s2) rfl (ow_tail o3)
end
end Lg
namespace Lg
open PySem PySem.Spec PyProof.Rows L2 Wr
section
variable {K : PySem.W.Frag} {F0 : Hp} {D : Ends} {ds : List (Option Da)} {rs rs1 rs2 : List Rs} {ta : TA} {tt tt2 : TT} {tz tw : TS} {b b1 b2 : Bool} {ii : Nat}
theorem g_forR2 {lo hi : Int} (h : EvA K rs ta ds [.int lo, .int hi] rs1) (hn : -100000 ≤ lo ∧ lo ≤ hi ∧ hi ≤ 100000) (I : Nat → List (Option Da) → List Rs → Prop) (h0 : I 0 ds rs1)
    (hs : ∀ (i : Nat) ds rs, lo + (i : Int) < hi → I i ds rs → G K F0 tw { D with nx := Post K F0 (I (i + 1)), ct := Post K F0 (I (i + 1)), bk := tz D } (ds.set ii (some (.int (lo + (i : Int))))) rs)
    (hd : ∀ ds rs, I (hi - lo).toNat ds rs → G K F0 tz D ds rs) : G K F0 (tSeq (tFor (iRng2 ta) (gName ii) tw) tz) D ds rs := fun σ F H s vs o =>
  h σ F H vs o _ fun ws F1 H1 s1 dw o1 => by
    obtain ⟨v1, r1, rfl, hv1, v2, r2, rfl, hv2, rfl⟩ := dw
    refine ⟨lo, hi, by rw [show v1 = _ from hv1, show v2 = _ from hv2], by omega, for_range (lo := lo) (n := (hi - lo).toNat) (fun i => Post K F0 (I i)) ⟨ds, rs1, F1, s.trans s1, h0, vs.mono s1, o1⟩ (fun i σ' H' hi p => ?_) (fun σ' H' p => ?_)⟩
    · obtain ⟨ds', rs', F', s', hI, vs', o'⟩ := p
      exact hs i ds' rs' (by omega) hI _ F' H' s' (vs'.set rfl) o'
    · obtain ⟨ds', rs', F', s', hI, vs', o'⟩ := p
      exact hd ds' rs' hI σ' F' H' s' vs' o'
/-- a and b: b changes what is owned -/
theorem tAndT (h1 : EvT K rs tt ds b1 rs1) (hb : b1 = true) (h2 : EvT K rs1 tt2 ds b2 rs2) : EvT K rs (tAnd tt tt2) ds b2 rs2 := fun σ F H vs o Q q => h1 σ F H vs o _ fun F1 H1 s1 o1 => by
  rw [hb, if_pos rfl]
  exact h2 σ F1 H1 (vs.mono s1) o1 _ fun F2 H2 s2 o2 => q F2 H2 (s1.trans s2) o2
theorem tAndF (h1 : EvT K rs tt ds b1 rs1) (hb : b1 = false) : EvT K rs (tAnd tt tt2) ds false rs1 := fun σ F H vs o Q q => h1 σ F H vs o _ fun F1 H1 s1 o1 => by
  rw [hb, if_neg Bool.false_ne_true]
  exact q F1 H1 s1 o1
end
end Lg

/-! Hosts. -/
namespace Wr
open PySem PySem.Spec PyProof.Rows L2 Evl
abbrev cH (K : PySem.W.Frag) : Addr := He.ga K "Host"
structure HostF (K : PySem.W.Frag) : Prop where
  ch : Cls K (cH K)
  nh : ∀ f ∈ (["first", "ends", "heard", "turn", "spare"] : List Str), NoAttr K (cH K) f
def hostB (K : PySem.W.Frag) (ms : List Str) : Bool :=
  He.Fa.ok K (.cls "Host") && ((["first", "ends", "heard", "turn", "spare"] : List Str).all (fun f => He.Fa.ok K (.noat "Host" f)) && (He.Fa.ok K (.mkr "Host") && ms.all (fun m => He.Fa.ok K (.meth "Host" m))))
theorem hostB_ok {K : PySem.W.Frag} {ms : List Str} (h : hostB K ms = true) : HostF K ∧ Mk K (cH K) (He.ma K (cH K) "__init__") ∧ ∀ m ∈ ms, Meth K (cH K) m (He.ma K (cH K) m) := by
  unfold hostB at h
  obtain ⟨h1, h⟩ := Bool.and_eq_true_iff.mp h
  obtain ⟨h2, h⟩ := Bool.and_eq_true_iff.mp h
  obtain ⟨h3, h4⟩ := Bool.and_eq_true_iff.mp h
  exact ⟨⟨He.cls_ok h1, fun f hf => He.noat_ok (List.all_eq_true.mp h2 f hf)⟩, He.mkr_ok h3, fun m hm => He.meth_ok (List.all_eq_true.mp h4 m hm)⟩
theorem own_perm {cs ds : List Ck} (p : cs.Perm ds) : ∀ {H : Hp}, Own cs H → Own ds H := by
  induction p with
  | nil => exact fun o => o
  | cons x _ ih => exact fun o => own_tl (fun _ => ih) o
  | swap x y l => exact fun o => own_swap o
  | trans _ _ ih1 ih2 => exact fun o => ih2 (ih1 o)
end Wr
namespace M
structure HostS where
  first : Int
  turn : Int
  spare : EndS
  ends : List EndS
def hnew (f : Int) : HostS := ⟨f, 0, opened 0 0 f false, []⟩
def hcalls (h : HostS) (a b : Int) : HostS := { h with first := plus h.first 64000, ends := h.ends ++ [opened a b h.first true] }
def hidx (h : HostS) (k : Nat) : Nat := ((h.turn + (k : Int)) % (h.ends.length : Int)).toNat
/-- the ends are asked, each in its turn -/
def hgo (now : Int) : Nat → Nat → HostS → HostS × List Int
  | 0, _, h => (h, [])
  | f + 1, k, h => match h.ends[hidx h k]? with
    | none => (h, [])
    | some e => if (!(E.send e now).2.isEmpty) = true then ({ h with ends := h.ends.set (hidx h k) (E.send e now).1, turn := (h.turn + (k : Int) + 1) % (h.ends.length : Int) }, (E.send e now).2)
        else hgo now f (k + 1) { h with ends := h.ends.set (hidx h k) (E.send e now).1 }
def hsends (h : HostS) (now : Int) : HostS × List Int :=
  if (!(E.send h.spare now).2.isEmpty) = true then ({ h with spare := (E.send h.spare now).1 }, (E.send h.spare now).2) else hgo now h.ends.length 0 { h with spare := (E.send h.spare now).1 }
structure HSz (h : HostS) : Prop where
  sp : Sz h.spare
  en : ∀ e ∈ h.ends, Sz e
  nu : h.ends.length ≤ 1000
end M
namespace Lg
open PySem PySem.Spec PyProof.Rows L2 Wr
section
variable {K : PySem.W.Frag} {F0 F H : Hp} {D : Ends} {ds : List (Option Da)} {rs rs0 rs1 rs2 rest r : List Rs} {ta tb te tv : TE} {tA : TA} {tz tw t : TS} {d : Da} {l : List Da} {p a C : Addr} {fs : List (Str × Da)} {f m : Str} {h h' : M.HostS} {el hd sp : Addr} {as : List Addr} {ii : Nat} {e e' : M.EndS}
theorem ow_perm {rs rs' : List Rs} (q : rs.Perm rs') (o : Ow F rs H) : Ow F rs' H := own_tl (fun _ o => own_perm (q.map fun r => r.ck F) o) o
theorem g_perm {rs rs' : List Rs} (q : rs.Perm rs') (k : G K F0 t D ds rs') : G K F0 t D ds rs := fun σ F H s vs o => k σ F H s vs (ow_perm q o)
theorem AllF.lk : ∀ {l : List (Str × Da)} {ws : List (Str × V)} {f : Str} {d : Da}, AllF K F l ws → l.lookup f = some d → ∃ v, ws.lookup f = some v ∧ Dv K F d v
  | [], _, _, _, _, e => by cases e
  | (g, x) :: r, _, f, d, ⟨v, r2, e, hv, k⟩, hl => by
    rw [e]
    by_cases z : f == g
    · rw [List.lookup_cons, z] at hl ⊢
      obtain rfl := Option.some.inj hl
      exact ⟨v, rfl, hv⟩
    · have z' : (f == g) = false := by simpa using z
      rw [List.lookup_cons, z'] at hl ⊢
      exact AllF.lk k hl
theorem AllF.no : ∀ {l : List (Str × Da)} {ws : List (Str × V)} {f : Str}, AllF K F l ws → l.lookup f = none → ws.lookup f = none
  | [], _, _, h, _ => by rw [show _ = [] from h]; rfl
  | (g, x) :: r, _, f, ⟨v, r2, e, hv, k⟩, hl => by
    rw [e]
    by_cases z : f == g
    · rw [List.lookup_cons, z] at hl; cases hl
    · have z' : (f == g) = false := by simpa using z
      rw [List.lookup_cons, z'] at hl ⊢
      exact AllF.no k hl
/-- x.f, of a record -/
theorem raw_fld (c : Cls K C) (na : NoAttr K C f) (ho : Ev K rs0 te ds (.ref p) rs) (hp : Pick (rawR K p C fs) rs rest) (lk : fs.lookup f = some d) : Ev K rs0 (tFld K te f) ds d rs := fun σ F H vs o Q q => ho σ F H vs o _ fun x F1 H1 s1 dx o1 => by
  obtain ⟨dx', ws, h1, o2⟩ := raw_out (ow_pick hp o1)
  obtain ⟨v, g1, g2⟩ := h1.lk lk
  exact ⟨p, C, dx', ws, v, dx, pt_ok.mp (own_head o2), c, na, g1, q v F1 H1 s1 g2 o1⟩
/-! lists that stand in a field -/
theorem lenF (ho : Ev K rs te ds (.ref p) rs1) (hp : Pick (ol K p l) rs1 rest) : Ev K rs (tCB (rLn K) (tCons te tNil)) ds (.int (l.length : Int)) rs1 := cb (cons_ ho nil_) fun xs F H dx o Q q => by
  obtain ⟨v, rfl, hv⟩ := dv1 dx
  rw [show v = _ from hv]
  obtain ⟨ys, h1, o2⟩ := ol_out (ow_pick hp o)
  refine ⟨p, ys, rfl, .inl (.inl (.inl (pt_ok.mp (own_head o2)))), ?_⟩
  rw [dvAll_len h1]
  exact q _ F H (Sub.refl F) rfl o
theorem ixF {n : Nat} (ho : Ev K rs ta ds (.ref p) rs1) (hb : Ev K rs1 tb ds (.int (n : Int)) rs2) (hp : Pick (ol K p l) rs2 rest) (hx : l[n]? = some d) : Ev K rs (tOp (rIxL K) ta tb) ds d rs2 := op ho hb fun x y F H hx' hy o Q q => by
  obtain ⟨ys, h1, o2⟩ := ol_out (ow_pick hp o)
  obtain ⟨v, g1, g2⟩ := dvAll_get h1 hx
  refine ⟨p, ys, (n : Int), v, hx', hy, .inl (.inl (pt_ok.mp (own_head o2))), ?_, q v F H (Sub.refl F) g2 o⟩
  have hlt := (List.getElem?_eq_some_iff.mp g1).1
  unfold atI ixN
  rw [if_pos (by omega), if_pos (by omega), Int.toNat_natCast]
  exact g1
end
end Lg
namespace Lg
open PySem PySem.Spec PyProof.Rows L2 Wr
section
variable {K : PySem.W.Frag} {F0 F H : Hp} {D : Ends} {ds : List (Option Da)} {rs rs0 rs1 rs2 rs3 rest r : List Rs} {ta tb te tv : TE} {tA : TA} {tz tw t : TS} {d : Da} {l : List Da} {p a C : Addr} {fs : List (Str × Da)} {f m : Str} {h h' : M.HostS} {el hd sp : Addr} {as : List Addr} {ii : Nat} {e e' : M.EndS}
theorem dvAll_ref {F : Hp} : ∀ {as : List Addr} {xs : List V}, DvAll K F (as.map Da.ref) xs ↔ xs = as.map V.ref
  | [], xs => Iff.rfl
  | y :: ys, xs => by
    constructor
    · rintro ⟨v, r, rfl, hv, hr⟩
      rw [show v = V.ref y from hv, dvAll_ref.mp hr]; rfl
    · rintro rfl
      exact ⟨_, _, rfl, rfl, dvAll_ref.mpr rfl⟩
/-- x.f.append(e) -/
theorem g_appF (ho : Ev K rs te ds (.ref p) rs1) (h : Ev K rs1 tv ds d rs1) (hp : Put (ol K p l) (ol K p (l ++ [d])) rs1 rs2) (hz : l.length < 100000) (k : G K F0 tz D ds rs2) :
    G K F0 (tSeq (tDrop (tBM K "list" rAppend te (tCons tv tNil))) tz) D ds rs := fun σ F H s vs o => ho σ F H vs o _ fun x F1 H1 s1 dx o1 => by
  obtain ⟨m, hp1, hp2⟩ := hp.two
  rw [show x = V.ref p from dx]
  obtain ⟨xs, h1, o2⟩ := ol_out (ow_pick hp1 o1)
  refine ⟨.inl ⟨rfl, xs, .inl (.inl (pt_ok.mp (own_head o2)))⟩, ?_⟩
  refine h σ F1 H1 (vs.mono s1) o1 _ fun y F2 H2 s2 dy o3 => ?_
  obtain ⟨ys, h2, o4⟩ := ol_out (ow_pick hp1 o3)
  refine ⟨p, ys, y, rfl, rfl, pt_ok.mp (own_head o4), by rw [dvAll_len h2]; exact Evl.sz_lt hz, ?_⟩
  exact k σ F2 _ (s.trans (s1.trans s2)) (vs.mono (s1.trans s2)) (ow_back hp2 (ol_mk (own_upd o4) (dvAll_app h2 ⟨y, [], rfl, dy, rfl⟩)))
/-- for x in e.f: a list of owned things -/
theorem g_forF (ho : Ev K rs te ds (.ref p) rs1) (I : Nat → List (Option Da) → List Rs → Prop) (h0 : I 0 ds rs1) (hI : ∀ i ds rs, I i ds rs → ∃ rest, Pick (ol K p (as.map Da.ref)) rs rest)
    (hs : ∀ (i : Nat) a ds rs, as[i]? = some a → I i ds rs → G K F0 tw { D with nx := Post K F0 (I (i + 1)), ct := Post K F0 (I (i + 1)), bk := tz D } (ds.set ii (some (.ref a))) rs)
    (hd : ∀ ds rs, I as.length ds rs → G K F0 tz D ds rs) : G K F0 (tSeq (tFor (iList K te) (gName ii) tw) tz) D ds rs := fun σ F H s vs o =>
  ho σ F H vs o _ fun v F1 H1 s1 dv o1 => by
    have seq : ∀ {F : Hp} {H : Hp} {i ds rs}, I i ds rs → Ow F rs H → SqL K H p (as.map V.ref) := fun hi o => by
      obtain ⟨rest, hp⟩ := hI _ _ _ hi
      obtain ⟨xs, h1, o2⟩ := ol_out (ow_pick hp o)
      rw [dvAll_ref.mp h1] at o2
      exact .inl (.inl (pt_ok.mp (own_head o2)))
    refine ⟨p, dv, ⟨_, seq h0 o1⟩, for_list (K := K) (a := p) (xs := as.map V.ref) (fun i => Post K F0 (I i)) ⟨ds, rs1, F1, s.trans s1, h0, vs.mono s1, o1⟩ (fun i σ' H' _ q => ?_) (fun i x σ' H' hi q => ?_) (fun σ' H' q => ?_)⟩
    · obtain ⟨ds', rs', F', s', hI', vs', o'⟩ := q
      exact seq hI' o'
    · obtain ⟨ds', rs', F', s', hI', vs', o'⟩ := q
      rw [List.getElem?_map] at hi
      cases ha : as[i]? with
      | none => rw [ha] at hi; cases hi
      | some a =>
        rw [ha] at hi
        obtain rfl := (Option.some.inj hi).symm
        exact hs i a ds' rs' ha hI' _ F' H' s' (vs'.set rfl) o'
    · rw [List.length_map] at q
      obtain ⟨ds', rs', F', s', hI', vs', o'⟩ := q
      exact hd ds' rs' hI' σ' F' H' s' vs' o'
/-! hosts -/
def hfs (el hd sp : Addr) (h : M.HostS) : List (Str × Da) := [("first", .int h.first), ("ends", .ref el), ("heard", .ref hd), ("turn", .int h.turn), ("spare", .ref sp)]
def endsR (K : PySem.W.Frag) : List Addr → List M.EndS → List Rs
  | a :: as, e :: es => endR K a e :: endsR K as es
  | _, _ => []
def openH (K : PySem.W.Frag) (p el hd sp : Addr) (as : List Addr) (h : M.HostS) : List Rs := rawR K p (cH K) (hfs el hd sp h) :: ol K el (as.map Da.ref) :: dk K hd [] :: endR K sp h.spare :: endsR K as h.ends
def hostR (K : PySem.W.Frag) (p : Addr) (h : M.HostS) : Rs := ⟨fun F => exk fun (x : Addr × Addr × Addr × List Addr) => sep (pur (x.2.2.2.length = h.ends.length) :: (openH K p x.1 x.2.1 x.2.2.1 x.2.2.2 h).map fun r => r.ck F), fun F F' H s q => by
  obtain ⟨x, q⟩ := exk_ok.mp q
  obtain ⟨h1, o⟩ := own_pur.mp (sep_ok.mp q)
  exact exk_ok.mpr ⟨x, sep_ok.mpr (own_pur.mpr ⟨h1, own_mo s o⟩)⟩⟩
theorem host_open (o : Ow F (hostR K p h :: rs) H) : ∃ el hd sp as, as.length = h.ends.length ∧ Ow F (openH K p el hd sp as h ++ rs) H := by
  obtain ⟨⟨el, hd, sp, as⟩, o2⟩ := own_ex.mp (own_swap o)
  obtain ⟨h1, o3⟩ := own_pur.mp (own_sep.mp o2)
  refine ⟨el, hd, sp, as, h1, ?_⟩
  have o4 := own_perm (List.perm_middle) o3
  show Own (fz F :: (openH K p el hd sp as h ++ rs).map fun r => r.ck F) H
  rw [List.map_append]
  exact o4
theorem host_close (hl : as.length = h.ends.length) (o : Ow F (openH K p el hd sp as h ++ rs) H) : Ow F (hostR K p h :: rs) H := by
  refine own_swap (own_ex.mpr ⟨(el, hd, sp, as), own_sep.mpr (own_pur.mpr ⟨hl, ?_⟩)⟩)
  have o2 : Own (fz F :: (openH K p el hd sp as h ++ rs).map fun r => r.ck F) H := o
  rw [List.map_append] at o2
  exact own_perm (List.perm_middle.symm) o2
theorem g_openH (k : ∀ el hd sp as, as.length = h.ends.length → G K F0 t D ds (openH K p el hd sp as h ++ rs)) : G K F0 t D ds (hostR K p h :: rs) := fun σ F H s vs o => by
  obtain ⟨el, hd, sp, as, hl, o2⟩ := host_open o
  exact k el hd sp as hl σ F H s vs o2
theorem g_closeH (hl : as.length = h.ends.length) (k : G K F0 t D ds (hostR K p h :: rs)) : G K F0 t D ds (openH K p el hd sp as h ++ rs) := fun σ F H s vs o => k σ F H s vs (host_close hl o)
theorem put_nth : ∀ {as : List Addr} {es : List M.EndS} {i : Nat} {a : Addr} {e e' : M.EndS} {r : List Rs}, as[i]? = some a → es[i]? = some e → Put (endR K a e) (endR K a e') (endsR K as es ++ r) (endsR K as (es.set i e') ++ r)
  | [], _, _, _, _, _, _, h, _ => by cases h
  | _ :: _, [], _, _, _, _, _, _, h => by cases h
  | a :: as, e :: es, 0, _, _, _, _, h1, h2 => by
    obtain rfl := Option.some.inj h1
    obtain rfl := Option.some.inj h2
    exact .here
  | a :: as, e :: es, i + 1, _, _, _, _, h1, h2 => .there (put_nth (as := as) (es := es) (i := i) h1 h2)
theorem pick_nth : ∀ {as : List Addr} {es : List M.EndS} {i : Nat} {a : Addr} {e : M.EndS} {r : List Rs}, as[i]? = some a → es[i]? = some e → ∃ rest, Pick (endR K a e) (endsR K as es ++ r) rest
  | [], _, _, _, _, _, h, _ => by cases h
  | _ :: _, [], _, _, _, _, _, h => by cases h
  | a :: as, e :: es, 0, _, _, _, h1, h2 => by
    obtain rfl := Option.some.inj h1
    obtain rfl := Option.some.inj h2
    exact ⟨_, .here⟩
  | a :: as, e :: es, i + 1, _, _, _, h1, h2 => by
    obtain ⟨rest, q⟩ := pick_nth (as := as) (es := es) (i := i) h1 h2
    exact ⟨_, .there q⟩
theorem endsR_snoc : ∀ {as : List Addr} {es : List M.EndS} {a : Addr} {e : M.EndS}, as.length = es.length → endsR K (as ++ [a]) (es ++ [e]) = endsR K as es ++ [endR K a e]
  | [], [], _, _, _ => rfl
  | [], _ :: _, _, _, h => by cases h
  | _ :: _, [], _, _, h => by cases h
  | a :: as, e :: es, b, g, h => by
    show endR K a e :: endsR K (as ++ [b]) (es ++ [g]) = endR K a e :: (endsR K as es ++ [endR K b g])
    rw [endsR_snoc (by simpa using h)]
/-! methods -/
theorem methR {R : List Da → List Rs → Da → List Rs → Prop} {X : XK} (ho : Ev K rs te ds (.ref p) rs1) (hp : Pick (rawR K p C fs) rs1 rest) (hm : fs.lookup m = none) (ha : EvA K rs1 tA ds l rs2) (hR : R (.ref p :: l) rs2 d rs3) :
    Ev K rs (tMeth C m (SpG K R) [] X te tA) ds d rs3 := fun σ F H vs o Q q => ho σ F H vs o _ fun x F1 H1 s1 dx o1 => by
  obtain ⟨dx', ws, h1, o2⟩ := raw_out (ow_pick hp o1)
  refine ⟨p, dx', ws, dx, pt_ok.mp (own_head o2), h1.no hm, ?_⟩
  refine ha σ F1 H1 (vs.mono s1) o1 _ fun us F2 H2 s2 dw o3 => ?_
  exact ⟨F2, .ref p :: l, _, d, _, by rw [List.append_nil, show x = V.ref p from dx]; exact ⟨_, _, rfl, rfl, dw⟩, o3, hR, fun v F3 H3 s3 dv o4 => q v F3 H3 ((s1.trans s2).trans s3) dv o4⟩
theorem methH {R : List Da → List Rs → Da → List Rs → Prop} {X : XK} (ho : Ev K rs te ds (.ref p) rs1) (hp : Pick (hostR K p h) rs1 rest) (hm : ∀ el hd sp h, (hfs el hd sp h).lookup m = none) (ha : EvA K rs1 tA ds l rs2) (hR : R (.ref p :: l) rs2 d rs3) :
    Ev K rs (tMeth (cH K) m (SpG K R) [] X te tA) ds d rs3 := fun σ F H vs o Q q => ho σ F H vs o _ fun x F1 H1 s1 dx o1 => by
  obtain ⟨el, hd, sp, as, _, o2⟩ := host_open (ow_pick hp o1)
  obtain ⟨dx', ws, h1, o3⟩ := raw_out o2
  refine ⟨p, dx', ws, dx, pt_ok.mp (own_head o3), h1.no (hm _ _ _ _), ?_⟩
  refine ha σ F1 H1 (vs.mono s1) o1 _ fun us F2 H2 s2 dw o4 => ?_
  exact ⟨F2, .ref p :: l, _, d, _, by rw [List.append_nil, show x = V.ref p from dx]; exact ⟨_, _, rfl, rfl, dw⟩, o4, hR, fun v F3 H3 s3 dv o5 => q v F3 H3 ((s1.trans s2).trans s3) dv o5⟩
theorem methHX {R : List Da → List Rs → (Addr → Da) → (Addr → List Rs) → Prop} {X : XK} {f : Addr → Da} {g : Addr → List Rs} (ho : Ev K rs te ds (.ref p) rs1) (hp : Pick (hostR K p h) rs1 rest) (hm : ∀ el hd sp h, (hfs el hd sp h).lookup m = none) (ha : EvA K rs1 tA ds l rs2) (hR : R (.ref p :: l) rs2 f g) :
    EvX K rs (tMeth (cH K) m (SpE K R) [] X te tA) ds f g := fun σ F H vs o Q q => ho σ F H vs o _ fun x F1 H1 s1 dx o1 => by
  obtain ⟨el, hd, sp, as, _, o2⟩ := host_open (ow_pick hp o1)
  obtain ⟨dx', ws, h1, o3⟩ := raw_out o2
  refine ⟨p, dx', ws, dx, pt_ok.mp (own_head o3), h1.no (hm _ _ _ _), ?_⟩
  refine ha σ F1 H1 (vs.mono s1) o1 _ fun us F2 H2 s2 dw o4 => ?_
  exact ⟨F2, .ref p :: l, _, f, g, by rw [List.append_nil, show x = V.ref p from dx]; exact ⟨_, _, rfl, rfl, dw⟩, o4, hR, fun p v F3 H3 s3 => q p v F3 H3 ((s1.trans s2).trans s3)⟩
theorem g_dropX {f : Addr → Da} {g : Addr → List Rs} (h : EvX K rs te ds f g) (k : ∀ p, G K F0 tz D ds (g p)) : G K F0 (tSeq (tDrop te) tz) D ds rs := fun σ F H s vs o =>
  h σ F H vs o _ fun p v F1 H1 s1 dv o1 => k p _ F1 H1 (s.trans s1) (vs.mono s1) o1
/-! what the methods answer -/
def R_hinit (K : PySem.W.Frag) (l : List Da) (rs : List Rs) (d : Da) (rs' : List Rs) : Prop := ∃ p f r, l = [.ref p, .int f] ∧ rs = rawR K p (cH K) [] :: r ∧ d = .non ∧ rs' = hostR K p (M.hnew f) :: r
def R_hnext (K : PySem.W.Frag) (l : List Da) (rs : List Rs) (d : Da) (rs' : List Rs) : Prop := ∃ p el hd sp h r, l = [.ref p] ∧ rs = rawR K p (cH K) (hfs el hd sp h) :: r ∧ d = .int h.first ∧ rs' = rawR K p (cH K) (hfs el hd sp { h with first := M.plus h.first 64000 }) :: r
def R_hnone (K : PySem.W.Frag) (l : List Da) (rs : List Rs) (d : Da) (rs' : List Rs) : Prop := ∃ p el hd sp as h a b r, l = [.ref p, .int a, .int b] ∧ as.length = h.ends.length ∧ (∀ e ∈ h.ends, (decide (e.ours = a) && (decide (e.theirs = b) && !decide (e.state = .closed))) = false) ∧ rs = openH K p el hd sp as h ++ r ∧ d = .non ∧ rs' = openH K p el hd sp as h ++ r
def e_hcalls (K : PySem.W.Frag) (l : List Da) (rs : List Rs) (f : Addr → Da) (g : Addr → List Rs) : Prop := ∃ p h a b r, l = [.ref p, .int a, .int b] ∧ h.ends.length ≤ 1000 ∧ (∀ e ∈ h.ends, (decide (e.ours = a) && (decide (e.theirs = b) && !decide (e.state = .closed))) = false) ∧ rs = hostR K p h :: r ∧ f = (fun q => .ref q) ∧ g = fun _ => hostR K p (M.hcalls h a b) :: r
def R_hsends (K : PySem.W.Frag) (l : List Da) (rs : List Rs) (d : Da) (rs' : List Rs) : Prop := ∃ p h now r, l = [.ref p, .int now] ∧ M.HSz h ∧ rs = hostR K p h :: r ∧ d = li (M.hsends h now).2 ∧ rs' = hostR K p (M.hsends h now).1 :: r
end
end Lg
namespace Lg
open PySem PySem.Spec PyProof.Rows L2 Wr
section
variable {P : Program} {w : World} {K : PySem.W.Frag} {mg : Str → Option Value} {base : Heap} {fa : List He.Fa} {fn : List He.DefD} {ex : PySem.W.Frag → Bool}
theorem ok_mkE {c : Str × Option Str} {x qual : Str} {N ps : List Str} {k : Nat} {R : List Da → List Rs → (Addr → Da) → (Addr → List Rs) → Prop} {ar : Arguments} {bo : List Stmt} {sc : Scope} (T : Tx fa fn ex w K mg) (i : Nat) (hi : fn[i]? = some ⟨c, x, qual, ar, bo, sc, [], []⟩) (S : FnScope N ps sc)
    (hb : ∀ (kV doc pm : Value) (an : Option Addr) (cdv ct : Value) (us : List Value), us.length = ps.length → bindArgs (PySem.W.fnOf x qual ar bo sc .none kV doc pm an cdv ct) ⟨us, []⟩ = pure (ps.zip us))
    (len : ∀ l rs f g, R l rs f g → l.length = ps.length)
    (hbody : ∀ (f : Addr) (cdv : Value) (A : Around) (outer : List Env) (s : Shared) (H : Hp) (E : XK), Room k (A.deeper (envOfC qual sc s.heap.objs.size f cdv)) →
      ∃ t, PSs (cxOf CX0 P w K mg base N qual sc f cdv A outer s H E).nox bo t ∧ ∀ (F : Hp) (l : List Da) (rs : List Rs) (f : Addr → Da) (g : Addr → List Rs) (Q : VK), R l rs f g → (∀ p v F' H', Sub F F' → Dv K F' (f p) v → Ow F' (g p) H' → Q v H') →
        G K F t { nx := fun _ H' => Q .non H', rt := Q } (locs l N.length) rs) : ∃ fd : FuncData, FnOk P w K mg base CX0 (k + 1) (He.fAd K c) fd ps (SpE K R) ∧ Binds K fd ps [] := by
  obtain ⟨fd, F⟩ := T.says.def_ i hi
  refine ⟨fd, ?_, F.bindsN hb⟩
  refine F.ok S (fun vs H Q E h => ?_) fun cdv A outer s H vs Q E hr h => ?_
  · obtain ⟨F, l, rs, f, g, dw, _, hR, _⟩ := h
    rw [dvAll_len dw]; exact len _ _ _ _ hR
  · obtain ⟨F, l, rs, f2, g, dw, o, hR, kk⟩ := h
    obtain ⟨t, h1, h2⟩ := hbody _ cdv A outer s H E hr
    exact ⟨t, h1.nox, h2 F l rs f2 g Q hR kk _ F H (Sub.refl F) (vs_start dw) o⟩
end
end Lg

namespace Lg
open PySem PySem.Spec PyProof.Rows L2 Wr
section
variable {K : PySem.W.Frag} {F0 F H : Hp} {D : Ends} {ds : List (Option Da)} {rs r : List Rs} {t : TS} {p C q el hd sp : Addr} {fs fs' : List (Str × Da)} {h : M.HostS} {as : List Addr} {a b : Int} {e : M.EndS}
theorem g_rawE (e : fs = fs') (k : G K F0 t D ds (rawR K p C fs' :: r)) : G K F0 t D ds (rawR K p C fs :: r) := e ▸ k
theorem g_rawE2 {x : Rs} (e : fs = fs') (k : G K F0 t D ds (x :: rawR K p C fs' :: r)) : G K F0 t D ds (x :: rawR K p C fs :: r) := e ▸ k
theorem host_of_raw {f : Int} (e : fs = hfs el hd sp (M.hnew f)) (o : Ow F (rawR K p (cH K) fs :: endR K sp (M.opened 0 0 f false) :: dk K hd [] :: ol K el [] :: r) H) : Ow F (hostR K p (M.hnew f) :: r) H := by
  rw [e] at o
  refine host_close (as := []) (el := el) (hd := hd) (sp := sp) rfl ?_
  show Ow F (rawR K p (cH K) (hfs el hd sp (M.hnew f)) :: ol K el [] :: dk K hd [] :: endR K sp (M.opened 0 0 f false) :: r) H
  exact ow_in (fun _ _ o => ow_in (fun _ _ o => ow_swap o) (ow_swap (ow_in (fun _ _ o => ow_swap o) o))) o
/-- an end more -/
theorem g_snoc (hl : as.length = h.ends.length) (k : G K F0 t D ds (hostR K p (M.hcalls h a b) :: r)) :
    G K F0 t D ds (endR K q (M.opened a b h.first true) :: rawR K p (cH K) (hfs el hd sp { h with first := M.plus h.first 64000 }) :: ol K el (as.map Da.ref ++ [.ref q]) :: dk K hd [] :: endR K sp h.spare :: (endsR K as h.ends ++ r)) := fun σ F H s vs o => by
  refine k σ F H s vs (host_close (as := as ++ [q]) (el := el) (hd := hd) (sp := sp) (by show (as ++ [q]).length = (h.ends ++ [_]).length; rw [List.length_append, List.length_append, hl]; rfl) (ow_perm ?_ o))
  show List.Perm _ (rawR K p (cH K) (hfs el hd sp (M.hcalls h a b)) :: ol K el ((as ++ [q]).map Da.ref) :: dk K hd [] :: endR K sp h.spare :: (endsR K (as ++ [q]) (h.ends ++ [M.opened a b h.first true]) ++ r))
  rw [endsR_snoc hl, List.map_append, List.append_assoc]
  show List.Perm _ (([rawR K p (cH K) (hfs el hd sp { h with first := M.plus h.first 64000 }), ol K el (as.map Da.ref ++ [.ref q]), dk K hd [], endR K sp h.spare] ++ endsR K as h.ends) ++ (endR K q (M.opened a b h.first true) :: r))
  exact (List.perm_middle (l₁ := [rawR K p (cH K) (hfs el hd sp { h with first := M.plus h.first 64000 }), ol K el (as.map Da.ref ++ [.ref q]), dk K hd [], endR K sp h.spare] ++ endsR K as h.ends) (l₂ := r) (a := endR K q (M.opened a b h.first true))).symm
end
end Lg
namespace M
theorem hgo_step {now : Int} {f k : Nat} {h : HostS} {e : EndS} (he : h.ends[hidx h k]? = some e) : hgo now (f + 1) k h = if (!(E.send e now).2.isEmpty) = true then ({ h with ends := h.ends.set (hidx h k) (E.send e now).1, turn := (h.turn + (k : Int) + 1) % (h.ends.length : Int) }, (E.send e now).2)
    else hgo now f (k + 1) { h with ends := h.ends.set (hidx h k) (E.send e now).1 } := by
  show (match h.ends[hidx h k]? with | none => (h, []) | some e => _) = _
  rw [he]
theorem hz_set {h : HostS} (hz : HSz h) {i : Nat} {e : EndS} (he : Sz e) : HSz { h with ends := h.ends.set i e } :=
  ⟨hz.sp, fun x hx => (List.mem_or_eq_of_mem_set hx).elim (hz.en x) (fun q => q ▸ he), by show (h.ends.set i e).length ≤ 1000; rw [List.length_set]; exact hz.nu⟩
theorem hidx_ok {h : HostS} (k : Nat) (h0 : 0 < h.ends.length) : hidx h k < h.ends.length ∧ (h.turn + (k : Int)) % (h.ends.length : Int) = ((hidx h k : Nat) : Int) := by
  unfold hidx
  have h1 := Int.emod_nonneg (h.turn + (k : Int)) (show (h.ends.length : Int) ≠ 0 by omega)
  have h2 := Int.emod_lt_of_pos (h.turn + (k : Int)) (show 0 < (h.ends.length : Int) by omega)
  omega
end M

namespace M
theorem synB_ne (a b f : Int) : synB a b f ≠ [] := by
  intro z
  have : (synB a b f).length = 0 := by rw [z]; rfl
  unfold synB at this
  rw [put_len] at this
  split at this <;> omega
theorem spare_quiet (f now : Int) : E.send (opened 0 0 f false) now = (opened 0 0 f false, []) := rfl
section
variable {h : HostS} {now : Int} {t n : Nat} {e e' : EndS} {row : List Int}
theorem hs_go (hsp : E.send h.spare now = (h.spare, [])) (hn : h.ends.length = n) (ht : h.turn = (t : Int)) (htn : t < n) (hi : h.ends[t]? = some e) (hs : E.send e now = (e', row)) (hne : row ≠ []) :
    hsends h now = ({ h with ends := h.ends.set t e', turn := ((t + 1 : Nat) : Int) % (n : Int) }, row) := by
  unfold hsends
  rw [hsp]
  rw [if_neg (by simp)]
  obtain ⟨m, rfl⟩ : ∃ m, n = m + 1 := ⟨n - 1, by omega⟩
  show hgo now h.ends.length 0 h = _
  rw [hn]
  unfold hgo
  have hx : hidx h 0 = t := by
    unfold hidx
    rw [ht, hn]
    have : ((t : Int) + ((0 : Nat) : Int)) % ((m + 1 : Nat) : Int) = (t : Int) := by rw [Int.emod_eq_of_lt (by omega) (by omega)]; omega
    rw [this]; omega
  rw [hx, hi]
  show (if (!(E.send e now).2.isEmpty) = true then _ else _) = _
  rw [hs]
  have he : row.isEmpty = false := by cases row with | nil => exact absurd rfl hne | cons a l => rfl
  rw [if_pos (by show (!row.isEmpty) = true; rw [he]; rfl), ht, hn]
  congr 2
theorem set_same {l : List EndS} {i : Nat} {e : EndS} (hi : l[i]? = some e) : l.set i e = l := by
  refine List.ext_getElem? fun j => ?_
  by_cases z : i = j
  · subst z
    rw [List.getElem?_set_self (List.getElem?_eq_some_iff.mp hi).1, hi]
  · rw [List.getElem?_set_ne z]
theorem hgo_quiet (hall : ∀ e ∈ h.ends, E.send e now = (e, [])) : ∀ (f k : Nat), hgo now f k h = (h, [])
  | 0, k => rfl
  | f + 1, k => by
    unfold hgo
    cases hi : h.ends[hidx h k]? with
    | none => rfl
    | some e =>
      have hs := hall e (List.mem_of_getElem? hi)
      show (if (!(E.send e now).2.isEmpty) = true then _ else hgo now f (k + 1) { h with ends := h.ends.set (hidx h k) (E.send e now).1 }) = _
      rw [hs, if_neg (by simp)]
      show hgo now f (k + 1) { h with ends := h.ends.set (hidx h k) e } = _
      rw [set_same hi]
      exact hgo_quiet hall f (k + 1)
theorem hs_quiet (hsp : E.send h.spare now = (h.spare, [])) (hall : ∀ e ∈ h.ends, E.send e now = (e, [])) : hsends h now = (h, []) := by
  unfold hsends
  rw [hsp, if_neg (by simp)]
  exact hgo_quiet hall _ _
end
/-- what calls, by the place -/
structure Cl where
  a : Nat → Int
  b : Nat → Int
  f : Int
def Cl.no (c : Cl) (j : Nat) : Int := plus c.f (64000 * (j : Int))
theorem Cl.rg (c : Cl) (j : Nat) : 0 ≤ c.no j ∧ c.no j ≤ 4294967295 := plus_rg _ _
structure Hs (c : Cl) (n : Nat) (h : HostS) : Prop where
  sp : h.spare = opened 0 0 c.f false
  ln : h.ends.length = n
/-- the first calls -/
structure In1 (c : Cl) (n i : Nat) (h : HostS) : Prop extends Hs c n h where
  tn : h.turn = ((i : Nat) : Int) % (n : Int)
  en : ∀ j, j < n → ∃ e, h.ends[j]? = some e ∧ ((i ≤ j ∧ e = opened (c.a j) (c.b j) (c.no j) true) ∨ (j < i ∧ ∃ s, 7 ≤ s ∧ s ≤ 8 ∧ e = called (c.a j) (c.b j) (c.no j) s 1000 0))
/-- .. again -/
structure In3 (c : Cl) (n i : Nat) (h : HostS) : Prop extends Hs c n h where
  tn : h.turn = ((i : Nat) : Int) % (n : Int)
  en : ∀ j, j < n → ∃ s w k, h.ends[j]? = some (called (c.a j) (c.b j) (c.no j) s w k) ∧ ((i ≤ j ∧ 7 ≤ s ∧ s ≤ 8 ∧ w = 1000 ∧ k = 0) ∨ (j < i ∧ s = 100000 ∧ w = 2000 ∧ k = 1))
def pos (n la j : Nat) : Nat := (j + n - la % n) % n
structure In4 (c : Cl) (n la i : Nat) (h : HostS) : Prop extends Hs c n h where
  tn : h.turn = (((la + i) % n : Nat) : Int)
  en : ∀ j, j < n → ∃ s w k, h.ends[j]? = some (called (c.a j) (c.b j) (c.no j) s w k) ∧ ((i ≤ pos n la j ∧ w ≤ 200000 - s ∧ k ≠ 6 ∧ 0 < w) ∨ (pos n la j < i ∧ s = 200000 ∧ 0 < w))
section
variable {c : Cl} {n i la : Nat} {h : HostS} {now : Int}
theorem get_set {l : List EndS} {i j : Nat} {e : EndS} (h : i < l.length) : (l.set i e)[j]? = if i = j then some e else l[j]? := by
  by_cases z : i = j
  · subst z; rw [if_pos rfl, List.getElem?_set_self h]
  · rw [if_neg z, List.getElem?_set_ne z]
theorem sz_of {l : List EndS} {n : Nat} (hl : l.length = n) (hall : ∀ j, j < n → ∃ e, l[j]? = some e ∧ Sz e) : ∀ e ∈ l, Sz e := fun e he => by
  obtain ⟨j, hj, rfl⟩ := List.getElem_of_mem he
  obtain ⟨e, h1, h2⟩ := hall j (by omega)
  rw [List.getElem?_eq_getElem hj] at h1
  rw [Option.some.inj h1]; exact h2
theorem In1.sz (hv : In1 c n i h) (hn : n ≤ 1000) : HSz h := ⟨by rw [hv.sp]; exact sz_opened _ _ _ _, sz_of hv.ln fun j hj => by
  obtain ⟨e, h1, h2⟩ := hv.en j hj
  refine ⟨e, h1, ?_⟩
  rcases h2 with ⟨_, rfl⟩ | ⟨_, s, _, _, rfl⟩
  · exact sz_opened _ _ _ _
  · exact sz_called _ _ _ _ _ _, by rw [hv.ln]; exact hn⟩
theorem In3.sz (hv : In3 c n i h) (hn : n ≤ 1000) : HSz h := ⟨by rw [hv.sp]; exact sz_opened _ _ _ _, sz_of hv.ln fun j hj => by
  obtain ⟨s, w, k, h1, _⟩ := hv.en j hj
  exact ⟨_, h1, sz_called _ _ _ _ _ _⟩, by rw [hv.ln]; exact hn⟩
theorem In4.sz (hv : In4 c n la i h) (hn : n ≤ 1000) : HSz h := ⟨by rw [hv.sp]; exact sz_opened _ _ _ _, sz_of hv.ln fun j hj => by
  obtain ⟨s, w, k, h1, _⟩ := hv.en j hj
  exact ⟨_, h1, sz_called _ _ _ _ _ _⟩, by rw [hv.ln]; exact hn⟩
theorem step1 (hv : In1 c n i h) (hi : i < n) (hnow : 7 ≤ now ∧ now ≤ 8) : ∃ h', hsends h now = (h', synB (c.a i) (c.b i) (c.no i)) ∧ In1 c n (i + 1) h' := by
  obtain ⟨e, h1, h2⟩ := hv.en i hi
  have he : e = opened (c.a i) (c.b i) (c.no i) true := by
    rcases h2 with ⟨_, z⟩ | ⟨z, _⟩
    · exact z
    · omega
  subst he
  have hm : ((i : Nat) : Int) % (n : Int) = (i : Int) := Int.emod_eq_of_lt (by omega) (by omega)
  refine ⟨_, hs_go (by rw [hv.sp]; exact spare_quiet _ _) hv.ln (by rw [hv.tn, hm]) hi h1 (send_first _ _ _ _) (synB_ne _ _ _), ⟨⟨hv.sp, by rw [List.length_set]; exact hv.ln⟩, rfl, fun j hj => ?_⟩⟩
  show ∃ e, (h.ends.set i _)[j]? = some e ∧ _
  rw [get_set (by rw [hv.ln]; exact hi)]
  by_cases z : i = j
  · subst z
    rw [if_pos rfl]
    exact ⟨_, rfl, .inr ⟨by omega, now, hnow.1, hnow.2, rfl⟩⟩
  · rw [if_neg z]
    obtain ⟨e, g1, g2⟩ := hv.en j hj
    refine ⟨e, g1, ?_⟩
    rcases g2 with ⟨z1, z2⟩ | ⟨z1, z2⟩
    · exact .inl ⟨by omega, z2⟩
    · exact .inr ⟨by omega, z2⟩
theorem quiet1 (hv : In1 c n n h) : hsends h 8 = (h, []) := hs_quiet (by rw [hv.sp]; exact spare_quiet _ _) fun e he => by
  obtain ⟨j, hj, rfl⟩ := List.getElem_of_mem he
  have hjn : j < n := by rw [← hv.ln]; exact hj
  obtain ⟨e, h1, h2⟩ := hv.en j hjn
  rw [List.getElem?_eq_getElem hj] at h1
  rw [Option.some.inj h1]
  rcases h2 with ⟨z, _⟩ | ⟨_, s, s1, s2, rfl⟩
  · omega
  · exact send_wait (c.rg j) (by omega)
theorem to3 (hv : In1 c n n h) : In3 c n 0 h := ⟨hv.toHs, by rw [hv.tn, Int.emod_self]; rfl, fun j hj => by
  obtain ⟨e, h1, h2⟩ := hv.en j hj
  rcases h2 with ⟨z, _⟩ | ⟨_, s, s1, s2, rfl⟩
  · omega
  · exact ⟨s, 1000, 0, h1, .inl ⟨Nat.zero_le _, s1, s2, rfl, rfl⟩⟩⟩
theorem step3 (hv : In3 c n i h) (hi : i < n) : ∃ h', hsends h 100000 = (h', synB (c.a i) (c.b i) (c.no i)) ∧ In3 c n (i + 1) h' := by
  obtain ⟨s, w, k, h1, h2⟩ := hv.en i hi
  obtain ⟨_, s1, s2, rfl, rfl⟩ : i ≤ i ∧ 7 ≤ s ∧ s ≤ 8 ∧ w = 1000 ∧ k = 0 := by
    rcases h2 with z | ⟨z, _⟩
    · exact z
    · omega
  have hm : ((i : Nat) : Int) % (n : Int) = (i : Int) := Int.emod_eq_of_lt (by omega) (by omega)
  refine ⟨_, hs_go (by rw [hv.sp]; exact spare_quiet _ _) hv.ln (by rw [hv.tn, hm]) hi h1 (send_again (c.rg i) (by omega) (by decide)) (synB_ne _ _ _), ⟨⟨hv.sp, by rw [List.length_set]; exact hv.ln⟩, rfl, fun j hj => ?_⟩⟩
  show ∃ s w k, (h.ends.set i _)[j]? = some _ ∧ _
  by_cases z : i = j
  · subst z
    refine ⟨100000, 2000, 1, ?_, .inr ⟨by omega, rfl, rfl, rfl⟩⟩
    rw [get_set (by rw [hv.ln]; exact hi), if_pos rfl]
    rfl
  · obtain ⟨s', w', k', g1, g2⟩ := hv.en j hj
    refine ⟨s', w', k', ?_, ?_⟩
    · rw [get_set (by rw [hv.ln]; exact hi), if_neg z]; exact g1
    · rcases g2 with ⟨z1, z2⟩ | ⟨z1, z2⟩
      · exact .inl ⟨by omega, z2⟩
      · exact .inr ⟨by omega, z2⟩
theorem to4 (hv : In3 c n la h) (hn : 0 < n) : In4 c n la 0 h := ⟨hv.toHs, by rw [hv.tn, Nat.add_zero, Int.natCast_emod], fun j hj => by
  obtain ⟨s, w, k, h1, h2⟩ := hv.en j hj
  refine ⟨s, w, k, h1, .inl ⟨Nat.zero_le _, ?_, ?_, ?_⟩⟩
  · rcases h2 with ⟨_, s1, s2, rfl, _⟩ | ⟨_, rfl, rfl, _⟩ <;> omega
  · rcases h2 with ⟨_, _, _, _, rfl⟩ | ⟨_, _, _, rfl⟩ <;> decide
  · rcases h2 with ⟨_, _, _, rfl, _⟩ | ⟨_, _, rfl, _⟩ <;> decide⟩
theorem pos_at (hn : 0 < n) (hi : i < n) : pos n la ((la + i) % n) = i := by
  unfold pos
  have h1 := Nat.mod_lt la hn
  have h2 := Nat.mod_lt (la + i) hn
  have h3 : (la + i) % n = (la % n + i) % n := by rw [Nat.add_mod, Nat.mod_eq_of_lt hi]
  rw [h3]
  by_cases z : la % n + i < n
  · rw [Nat.mod_eq_of_lt z, show la % n + i + n - la % n = i + n by omega, Nat.add_mod_right, Nat.mod_eq_of_lt hi]
  · have : (la % n + i) % n = la % n + i - n := by
      rw [Nat.mod_eq_sub_mod (by omega), Nat.mod_eq_of_lt (by omega)]
    rw [this, show la % n + i - n + n - la % n = i by omega, Nat.mod_eq_of_lt hi]
theorem pos_inj (hn : 0 < n) {j : Nat} (hj : j < n) : (la + pos n la j) % n = j := by
  unfold pos
  have h1 := Nat.mod_lt la hn
  rw [Nat.add_mod, Nat.mod_mod]
  by_cases z : la % n ≤ j
  · have : (j + n - la % n) % n = j - la % n := by
      rw [show j + n - la % n = (j - la % n) + n by omega, Nat.add_mod_right, Nat.mod_eq_of_lt (by omega)]
    rw [this, show la % n + (j - la % n) = j by omega, Nat.mod_eq_of_lt hj]
  · have : (j + n - la % n) % n = j + n - la % n := Nat.mod_eq_of_lt (by omega)
    rw [this, show la % n + (j + n - la % n) = j + n by omega, Nat.add_mod_right, Nat.mod_eq_of_lt hj]
theorem step4 (hv : In4 c n la i h) (hi : i < n) : ∃ h', hsends h 200000 = (h', synB (c.a ((la + i) % n)) (c.b ((la + i) % n)) (c.no ((la + i) % n))) ∧ In4 c n la (i + 1) h' := by
  have hn : 0 < n := by omega
  have ht := Nat.mod_lt (la + i) hn
  obtain ⟨s, w, k, h1, h2⟩ := hv.en ((la + i) % n) ht
  have hp := pos_at (la := la) hn hi
  obtain ⟨_, hw, hk, hw0⟩ : i ≤ pos n la ((la + i) % n) ∧ w ≤ 200000 - s ∧ k ≠ 6 ∧ 0 < w := by
    rcases h2 with z | ⟨z, _⟩
    · exact z
    · omega
  refine ⟨_, hs_go (by rw [hv.sp]; exact spare_quiet _ _) hv.ln hv.tn ht h1 (send_again (c.rg _) hw hk) (synB_ne _ _ _), ⟨⟨hv.sp, by rw [List.length_set]; exact hv.ln⟩, ?_, fun j hj => ?_⟩⟩
  · show (((la + i) % n + 1 : Nat) : Int) % (n : Int) = (((la + (i + 1)) % n : Nat) : Int)
    rw [← Int.natCast_emod, Nat.mod_add_mod]
    rfl
  · show ∃ s w k, (h.ends.set ((la + i) % n) _)[j]? = some _ ∧ _
    by_cases z : (la + i) % n = j
    · refine ⟨200000, mn (2 * w) 16000, k + 1, ?_, .inr ⟨by rw [← z, hp]; omega, rfl, ?_⟩⟩
      · rw [get_set (by rw [hv.ln]; exact ht), if_pos z, z]
      · unfold mn; split <;> omega
    · obtain ⟨s', w', k', g1, g2⟩ := hv.en j hj
      have hpj : pos n la j ≠ i := fun q => z (by rw [← q]; exact pos_inj hn hj)
      refine ⟨s', w', k', ?_, ?_⟩
      · rw [get_set (by rw [hv.ln]; exact ht), if_neg z]; exact g1
      · rcases g2 with ⟨z1, z2⟩ | ⟨z1, z2⟩
        · exact .inl ⟨by omega, z2⟩
        · exact .inr ⟨by omega, z2⟩
theorem quiet4 (hv : In4 c n la n h) : hsends h 200000 = (h, []) := hs_quiet (by rw [hv.sp]; exact spare_quiet _ _) fun e he => by
  obtain ⟨j, hj, rfl⟩ := List.getElem_of_mem he
  have hjn : j < n := by rw [← hv.ln]; exact hj
  obtain ⟨s, w, k, h1, h2⟩ := hv.en j hjn
  rw [List.getElem?_eq_getElem hj] at h1
  rw [Option.some.inj h1]
  have hp : pos n la j < n := Nat.mod_lt _ (by omega)
  rcases h2 with ⟨z, _⟩ | ⟨_, rfl, hw⟩
  · omega
  · exact send_wait (c.rg j) (by omega)
/-- the calls are made -/
structure In0 (c : Cl) (k : Nat) (h : HostS) : Prop extends Hs c k h where
  fi : h.first = c.no k
  tn : h.turn = 0
  en : ∀ j, j < k → h.ends[j]? = some (opened (c.a j) (c.b j) (c.no j) true)
theorem in0_new (c : Cl) (hf : 0 ≤ c.f ∧ c.f ≤ 4294967295) : In0 c 0 (hnew c.f) := ⟨⟨rfl, rfl⟩, by show c.f = plus c.f (64000 * ((0 : Nat) : Int)); rw [show (64000 : Int) * ((0 : Nat) : Int) = 0 by rfl, plus0 hf], rfl, fun j hj => absurd hj (Nat.not_lt_zero _)⟩
theorem in0_call {k : Nat} (hv : In0 c k h) : In0 c (k + 1) (hcalls h (c.a k) (c.b k)) := by
  refine ⟨⟨hv.sp, ?_⟩, ?_, hv.tn, fun j hj => ?_⟩
  · show (h.ends ++ [_]).length = _
    rw [List.length_append, hv.ln]; rfl
  · show plus h.first 64000 = _
    rw [hv.fi]
    unfold Cl.no
    rw [plus_plus]; congr 1 <;> omega
  · show (h.ends ++ [opened (c.a k) (c.b k) h.first true])[j]? = _
    by_cases z : j < k
    · rw [List.getElem?_append_left (by rw [hv.ln]; exact z)]; exact hv.en j z
    · obtain rfl : j = k := by omega
      rw [List.getElem?_append_right (by rw [hv.ln]; exact Nat.le_refl _), hv.ln, Nat.sub_self, hv.fi]; rfl
theorem in0_free {k : Nat} (hv : In0 c k h) (hd : ∀ j, j < k → c.a j ≠ c.a k) : ∀ e ∈ h.ends, (decide (e.ours = c.a k) && (decide (e.theirs = c.b k) && !decide (e.state = .closed))) = false := fun e he => by
  obtain ⟨j, hj, rfl⟩ := List.getElem_of_mem he
  have hjk : j < k := by rw [← hv.ln]; exact hj
  have h1 := hv.en j hjk
  rw [List.getElem?_eq_getElem hj] at h1
  rw [Option.some.inj h1]
  show (decide (c.a j = c.a k) && _) = false
  rw [decide_eq_false (hd j hjk)]; rfl
theorem to1 {k : Nat} (hv : In0 c k h) : In1 c k 0 h := ⟨hv.toHs, by rw [hv.tn, show (((0 : Nat) : Int) % (k : Int)) = 0 from Int.zero_emod _], fun j hj => ⟨_, hv.en j hj, .inl ⟨Nat.zero_le _, rfl⟩⟩⟩
end
end M

/-! Hosts that hear: methods that may raise; the dict of ports. -/
namespace Wr
open PySem PySem.Spec PyProof.Rows L2 Evl
def tMethS (C : Addr) (m : Str) (sp : Sp) (E : L2.St → XK) (ta : TE) (t : TA) : TE := fun σ H Q => ta σ H fun x H1 => ∃ a dx fs, x = .ref a ∧ H1 a = some (.ins C dx fs) ∧ fs.lookup m = none ∧
  t σ H1 fun vs H2 => sp (x :: vs) H2 Q (E σ)
structure MetX (P : Program) (w : World) (K : PySem.W.Frag) (mg : Str → Option Value) (base : Heap) (k : Nat) (C : Addr) (m : Str) (sp : Sp) : Prop where
  ex : ∃ (f : Addr) (fd : FuncData) (ps : List Str), Cls K C ∧ Meth K C m f ∧ FnOk P w K mg base (L2.CX P w) k f fd ps sp ∧ Binds K fd ps []
theorem pe_mtX {X : Cx} {k j : Nat} {C : Addr} {m : Str} {sp : Sp} {W : WX} {pos apos : Pos} {e o : Expr} {es : List Expr} {ta : TE} {t : TA} {pl : Sem Bool} (c : MetX X.prog X.w X.K X.mg X.base k C m sp) (hr : Room j X.A) (hk : k ≤ j) (tk : Takes X W) (he : PE X o ta) (ha : PA X (e :: es) t)
    (hst : starEach (e :: es) X.env = (false, eval e X.env) :: starEach es X.env := by rfl) (hpl : (backTo pos (starEach es X.env)).any (·.1) = false := by rfl)
    (ht : eval (.Call (.Attribute o m apos) (e :: es) [] pos) X.env = (do
      let ov ← eval o X.env
      standAt apos.atName
      let (f, first) ← holding [ov] (getMethod ov m pl)
      callWith pos f first (backTo pos (starEach (e :: es) X.env)) (backToKw pos (keywordEach [] X.env))) := by rfl) :
    PE X (.Call (.Attribute o m apos) (e :: es) [] pos) (tMethS C m sp (WE W) ta t) := by
  obtain ⟨f, fd, ps, hc, hm, F, b⟩ := c.ex
  refine ⟨fun pins s σ H Q I h => ?_⟩
  refine PySem.W.methodCall_KW (pl := pl) (thn (he.run pins s σ H _ I h) fun u s1 ⟨x, H1, I1, rx, a, dx, fs, ex, ea, l, q⟩ => ?_) ht
  subst ex
  obtain rfl : u = Value.ref a := rx
  refine getmeth_ok I1 ea hc hm l ?_
  refine PySem.W.callWith_K (first := [.ref a]) (h₀ := X.base) I.ok.mod.kin hm.kp (thn (ha.run pos pins s1 σ H1 _ I1 q) fun us s2 ⟨vs, H2, I2, r, q2⟩ => ⟨I2.kIn, ?_⟩) hst hpl
  exact run_fnS (us := .ref a :: us) (vs := .ref a :: vs) F (hr.mono hk) b (passAt tk σ) I2 (.cons rfl r) q2
theorem op_notIn_seqK {X : Cx} {K : PySem.W.Frag} (h : X.K = K) : OpR X (compareOp .NotIn) (rIn K true) := h ▸ op_notIn_seq
theorem pe_fldK {X : Cx} {K : PySem.W.Frag} {e : Expr} {ta : TE} {f : Str} {pos : Pos} (h : X.K = K) (he : PE X e ta) (hb : attributeBase e f X.env (eval e X.env) = eval e X.env) : PE X (.Attribute e f pos) (tFld K ta f) := h ▸ pe_fld he hb
end Wr
namespace Lg
open PySem PySem.Spec PyProof.Rows L2 Wr
/-- what may be new, or an error -/
def SpEX (K : PySem.W.Frag) (C : Addr) (R : List Da → List Rs → (Addr → Da) → (Addr → List Rs) → Prop) (RX : List Da → List Rs → Prop) : Sp := fun vs H Q E => ∃ F l rs, DvAll K F l vs ∧ Ow F rs H ∧
  ((∃ f g, R l rs f g ∧ ∀ p v F' H', Sub F F' → Dv K F' (f p) v → Ow F' (g p) H' → Q v H') ∨ (RX l rs ∧ ∀ F' H', Sub F F' → Ow F' rs H' → E (.ref C) none H'))
section
variable {P : Program} {w : World} {K : PySem.W.Frag} {mg : Str → Option Value} {base : Heap} {fa : List He.Fa} {fn : List He.DefD} {ex : PySem.W.Frag → Bool}
theorem ok_mkEX {c : Str × Option Str} {x qual : Str} {N ps : List Str} {k : Nat} {C : Addr} {R : List Da → List Rs → (Addr → Da) → (Addr → List Rs) → Prop} {RX : List Da → List Rs → Prop} {ar : Arguments} {bo : List Stmt} {sc : Scope} (T : Tx fa fn ex w K mg) (i : Nat) (hi : fn[i]? = some ⟨c, x, qual, ar, bo, sc, [], []⟩) (S : FnScope N ps sc)
    (hb : ∀ (kV doc pm : Value) (an : Option Addr) (cdv ct : Value) (us : List Value), us.length = ps.length → bindArgs (PySem.W.fnOf x qual ar bo sc .none kV doc pm an cdv ct) ⟨us, []⟩ = pure (ps.zip us))
    (len : ∀ l rs f g, R l rs f g → l.length = ps.length) (lenX : ∀ l rs, RX l rs → l.length = ps.length)
    (hbody : ∀ (f : Addr) (cdv : Value) (A : Around) (outer : List Env) (s : Shared) (H : Hp) (E : XK), Room k (A.deeper (envOfC qual sc s.heap.objs.size f cdv)) →
      ∃ t, PSs (cxOf (L2.CX P w) P w K mg base N qual sc f cdv A outer s H E) bo t ∧ ∀ (F : Hp) (l : List Da) (rs : List Rs) (Q : VK), ((∃ f g, R l rs f g ∧ ∀ p v F' H', Sub F F' → Dv K F' (f p) v → Ow F' (g p) H' → Q v H') ∨ (RX l rs ∧ ∀ F' H', Sub F F' → Ow F' rs H' → E (.ref C) none H')) →
        G K F t { nx := fun _ H' => Q .non H', rt := Q } (locs l N.length) rs) : ∃ fd : FuncData, FnOk P w K mg base (L2.CX P w) (k + 1) (He.fAd K c) fd ps (SpEX K C R RX) ∧ Binds K fd ps [] := by
  obtain ⟨fd, F⟩ := T.says.def_ i hi
  refine ⟨fd, ?_, F.bindsN hb⟩
  refine F.ok S (fun vs H Q E h => ?_) fun cdv A outer s H vs Q E hr h => ?_
  · obtain ⟨F, l, rs, dw, _, ⟨f, g, hR, _⟩ | ⟨hR, _⟩⟩ := h
    · rw [dvAll_len dw]; exact len _ _ _ _ hR
    · rw [dvAll_len dw]; exact lenX _ _ hR
  · obtain ⟨F, l, rs, dw, o, kk⟩ := h
    obtain ⟨t, h1, h2⟩ := hbody _ cdv A outer s H E hr
    exact ⟨t, h1, h2 F l rs Q kk _ F H (Sub.refl F) (vs_start dw) o⟩
theorem metX_of {C : Addr} {m : Str} {k : Nat} {ps : List Str} {sp : Sp} (c : Cls K C) (me : Meth K C m (He.ma K C m)) (h : ∃ fd : FuncData, FnOk P w K mg base (L2.CX P w) k (He.ma K C m) fd ps sp ∧ Binds K fd ps []) : MetX P w K mg base k C m sp := by
  obtain ⟨fd, h1, h2⟩ := h
  exact ⟨_, fd, ps, c, me, h1, h2⟩
end
/-! ### a dict of lists -/
def kR (kv : List (Int × Addr)) : List (Key × V) := kv.map fun x => (Sum.inl x.1, V.ref x.2)
theorem kR_val (k : Int) : ∀ kv : List (Int × Addr), valV (kR kv) (Sum.inl k) = (kv.lookup k).map V.ref
  | [] => rfl
  | (a, x) :: l => by
    by_cases h : k = a
    · subst h
      rw [List.lookup_cons_self]
      exact valV_pos (p := ((Sum.inl k : Key), V.ref x)) rfl
    · have e : valV (kR ((a, x) :: l)) (Sum.inl k) = valV (kR l) (Sum.inl k) := valV_neg (p := ((Sum.inl a : Key), V.ref x)) (by
        intro z
        exact h (Sum.inl.inj z).symm)
      rw [e, kR_val k l, List.lookup_cons, show (k == a) = false by simpa using h]
theorem kR_put {k : Int} {a : Addr} {kv : List (Int × Addr)} (h : kv.lookup k = none) : putK (kR kv) (Sum.inl k) (.ref a) = kR (kv ++ [(k, a)]) := by
  unfold putK
  rw [valV_any, kR_val, h]
  unfold kR
  rw [List.map_append]
  rfl
def hk (K : PySem.W.Frag) (p : Addr) (kv : List (Int × Addr)) : Rs := ⟨fun _ => pt p (.dK (kR kv)), fun _ _ _ _ h => h⟩
section
variable {K : PySem.W.Frag} {F0 F H : Hp} {D : Ends} {ds : List (Option Da)} {rs rs0 rs1 rs2 rs3 rest r : List Rs} {ta tb te tv td ty : TE} {tA : TA} {tz tw t : TS} {tt : TT} {d : Da} {l : List Da} {p a C q : Addr} {fs : List (Str × Da)} {f m : Str} {h h' : M.HostS} {el hd sp : Addr} {as ls : List Addr} {hs : List (Int × List Addr)} {ii jj : Nat} {e e' : M.EndS} {k : Int} {kv : List (Int × Addr)}
theorem hk_at (hp : Pick (hk K p kv) rs rest) (o : Ow F rs H) : H p = some (.dK (kR kv)) := ow_at (rs := rest) (ow_pick hp o)
theorem newK : EvX K rs tDNewK ds (fun p => .ref p) (fun p => hk K p [] :: rs) := fun σ F H vs o Q k => fun p hp => k p _ F _ (Sub.refl F) rfl (own_swap (own_new o hp))
theorem inK (hk1 : Ev K rs tb ds (.int k) rs1) (ho : Ev K rs1 te ds (.ref p) rs2) (hp : Pick (hk K p kv) rs2 rest) : Ev K rs (tDIn tb te) ds (.bl (kv.lookup k).isSome) rs2 := fun σ F H vs o Q q =>
  hk1 σ F H vs o _ fun y F1 H1 s1 dy o1 => ho σ F1 H1 (vs.mono s1) o1 _ fun x F2 H2 s2 dx o2 => by
    refine ⟨p, _, dx, .inl ⟨_, Sum.inl k, .inl (hk_at hp o2), by rw [show y = _ from dy]; rfl, rfl⟩, ?_⟩
    rw [kR_val, Option.isSome_map]
    exact q _ F2 H2 (s1.trans s2) rfl o2
theorem niK (hk1 : Ev K rs tb ds (.int k) rs1) (ho : Ev K rs1 te ds (.ref p) rs2) (hp : Pick (hk K p kv) rs2 rest) : Ev K rs (tDNotIn tb te) ds (.bl (!(kv.lookup k).isSome)) rs2 := fun σ F H vs o Q q =>
  hk1 σ F H vs o _ fun y F1 H1 s1 dy o1 => ho σ F1 H1 (vs.mono s1) o1 _ fun x F2 H2 s2 dx o2 => by
    refine ⟨p, _, dx, .inl ⟨_, Sum.inl k, .inl (hk_at hp o2), by rw [show y = _ from dy]; rfl, rfl⟩, ?_⟩
    rw [kR_val, Option.isSome_map]
    exact q _ F2 H2 (s1.trans s2) rfl o2
theorem getK (ho : Ev K rs te ds (.ref p) rs1) (hk1 : Ev K rs1 tb ds (.int k) rs2) (hp : Pick (hk K p kv) rs2 rest) (hl : kv.lookup k = some a) : Ev K rs (tDGet te tb) ds (.ref a) rs2 := fun σ F H vs o Q q =>
  ho σ F H vs o _ fun x F1 H1 s1 dx o1 => hk1 σ F1 H1 (vs.mono s1) o1 _ fun y F2 H2 s2 dy o2 => by
    refine ⟨p, .ref a, dx, .inl ⟨_, Sum.inl k, .inl (hk_at hp o2), by rw [show y = _ from dy]; rfl, by rw [kR_val, hl]; rfl⟩, ?_⟩
    exact q _ F2 H2 (s1.trans s2) rfl o2
theorem g_putA {g g' : Addr → List Rs} (hv : EvX K rs tv ds (fun a => .ref a) g) (ho : ∀ a, Ev K (g a) td ds (.ref p) (g a)) (hk1 : ∀ a, Ev K (g a) ty ds (.int k) (g a)) (hp : ∀ a, Put (hk K p kv) (hk K p (kv ++ [(k, a)])) (g a) (g' a)) (hno : kv.lookup k = none) (hz : kv.length < 100000)
    (kk : ∀ a, G K F0 tz D ds (g' a)) : G K F0 (tSeq (sDPut td ty tv) tz) D ds rs := fun σ F H s vs o =>
  hv σ F H vs o _ fun a v F1 H1 s1 dv o1 => ho a σ F1 H1 (vs.mono s1) o1 _ fun x F2 H2 s2 dx o2 => hk1 a σ F2 H2 (vs.mono (s1.trans s2)) o2 _ fun y F3 H3 s3 dy o3 => by
    obtain ⟨m, hp1, hp2⟩ := (hp a).two
    have o4 := ow_pick hp1 o3
    refine ⟨p, _, dx, .inl ⟨kR kv, Sum.inl k, ow_at (rs := m) o4, by rw [show y = _ from dy]; rfl, by unfold kR; rw [List.length_map]; exact Evl.sz_lt hz, rfl⟩, ?_⟩
    rw [show v = V.ref a from dv, kR_put hno]
    exact kk a σ F3 _ (s.trans (s1.trans (s2.trans s3))) (vs.mono (s1.trans (s2.trans s3))) (ow_back hp2 (ow_store (rs := m) o4))
/-- x.f[k].append(e) is g_appF; a comprehension over an owned list -/
theorem lcO (p0 : Addr → Bool) (f : Addr → Da) {qs : List Addr} (hv : Ev K rs te ds (.ref p) rs) (hp : Pick (ol K p (qs.map Da.ref)) rs rest) (hz : qs.length ≤ 40000)
    (ht : ∀ x Dl acc, x ∈ qs → EvT K (ptR Dl acc :: rs) tt ((ds.set jj none).set jj (some (.ref x))) (p0 x) (ptR Dl acc :: rs))
    (he : ∀ x Dl acc, x ∈ qs → p0 x = true → Ev K (ptR Dl acc :: rs) tv ((ds.set jj none).set jj (some (.ref x))) (f x) (ptR Dl acc :: rs)) :
    Ev K rs (tLc (iList K te) (gName jj) tt tv [jj]) ds (.list ((qs.filter p0).map f)) rs := fun σ F H vs o Q q =>
  hv σ F H vs o _ fun v F1 H1 s1 dv o1 => by
    have at_ : ∀ {F2 H' : Hp} {rs' rest' : List Rs}, Pick (ol K p (qs.map Da.ref)) rs' rest' → Ow F2 rs' H' → SqL K H' p (qs.map V.ref) := fun {F2 H' rs' rest'} hp o2 => by
      obtain ⟨ys, hy, o6⟩ := ol_out (ow_pick hp o2)
      rw [dvAll_ref.mp hy] at o6
      exact .inl (.inl (pt_ok.mp (own_head o6)))
    refine ⟨p, dv, ⟨qs.map V.ref, at_ hp o1⟩, fun Dl hD => lc_list (K := K) (a := p) (xs := qs.map V.ref) (fun i => CwR K F1 rs Dl (((qs.take i).filter p0).map f)) (cw_new o1 hD) (fun i H' _ c => ?_) (fun i x H' hi c => ?_) (fun H' c => ?_)⟩
    · obtain ⟨F2, acc, s2, o2, _⟩ := c
      exact at_ (.there hp) o2
    · refine ⟨wipe_eq, ?_⟩
      have hil : i < qs.length := by have := (List.getElem?_eq_some_iff.mp hi).1; rw [List.length_map] at this; exact this
      have hl := List.getElem?_eq_getElem hil
      rw [List.getElem?_map, hl] at hi
      obtain rfl := Option.some.inj hi
      have hm : qs[i] ∈ qs := List.getElem_mem hil
      have z := cw_turn (K := K) (tt := tt) (te := tv) (b := p0 qs[i]) (d := f qs[i]) (ds := (ds.set jj none).set jj (some (.ref qs[i]))) (σ2 := (wipe σ [jj]).set jj (some (.ref qs[i]))) (F1 := F1)
        (by rw [List.length_map]; exact Nat.lt_of_le_of_lt (List.length_filter_le _ _) (by rw [List.length_take]; omega)) c (Sub.refl F1) (fun F' s => (vs_wipe ((vs.mono s1).mono s)).set rfl)
        (fun acc => ht _ Dl _ hm) (fun hp acc => he _ Dl _ hm hp)
      rw [show (((qs.take (i + 1)).filter p0).map f) = if p0 qs[i] = true then ((qs.take i).filter p0).map f ++ [f qs[i]] else ((qs.take i).filter p0).map f from by
        rw [List.take_succ, hl, List.filter_append]
        cases hp : p0 qs[i] with
        | true => simp [hp]
        | false => simp [hp]]
      exact z
    · rw [List.length_map, List.take_length] at c
      obtain ⟨F2, s2, o2, d2⟩ := cw_done c
      exact q _ F2 H' (s1.trans s2) d2 o2
/-! the hosts -/
def lsR (K : PySem.W.Frag) : List Addr → List (Int × List Addr) → List Rs
  | a :: as, x :: xs => ol K a (x.2.map Da.ref) :: lsR K as xs
  | _, _ => []
def openA (K : PySem.W.Frag) (p el hd sp : Addr) (as ls : List Addr) (hs : List (Int × List Addr)) (h : M.HostS) (r : List Rs) : List Rs :=
  rawR K p (cH K) (hfs el hd sp h) :: ol K el (as.map Da.ref) :: hk K hd ((hs.map Prod.fst).zip ls) :: endR K sp h.spare :: (endsR K as h.ends ++ (lsR K ls hs ++ r))
theorem openA_app {r2 : List Rs} : openA K p el hd sp as ls hs h r ++ r2 = openA K p el hd sp as ls hs h (r ++ r2) := by
  unfold openA
  simp [List.append_assoc]
def hostA (K : PySem.W.Frag) (p : Addr) (as : List Addr) (hs : List (Int × List Addr)) (h : M.HostS) : Rs := ⟨fun F => exk fun (x : Addr × Addr × Addr × List Addr) => sep (pur (as.length = h.ends.length ∧ x.2.2.2.length = hs.length) :: (openA K p x.1 x.2.1 x.2.2.1 as x.2.2.2 hs h []).map fun r => r.ck F), fun F F' H s q => by
  obtain ⟨x, q⟩ := exk_ok.mp q
  obtain ⟨h1, o⟩ := own_pur.mp (sep_ok.mp q)
  exact exk_ok.mpr ⟨x, sep_ok.mpr (own_pur.mpr ⟨h1, own_mo s o⟩)⟩⟩
theorem hostA_open (o : Ow F (hostA K p as hs h :: rs) H) : ∃ el hd sp ls, as.length = h.ends.length ∧ ls.length = hs.length ∧ Ow F (openA K p el hd sp as ls hs h rs) H := by
  obtain ⟨⟨el, hd, sp, ls⟩, o2⟩ := own_ex.mp (own_swap o)
  obtain ⟨h1, o3⟩ := own_pur.mp (own_sep.mp o2)
  refine ⟨el, hd, sp, ls, h1.1, h1.2, ?_⟩
  have o4 := own_perm (List.perm_middle) o3
  have e : openA K p el hd sp as ls hs h rs = openA K p el hd sp as ls hs h [] ++ rs := by rw [openA_app]; rfl
  rw [e]
  show Own (fz F :: (openA K p el hd sp as ls hs h [] ++ rs).map fun r => r.ck F) H
  rw [List.map_append]
  exact o4
theorem hostA_close (hl : as.length = h.ends.length) (hl2 : ls.length = hs.length) (o : Ow F (openA K p el hd sp as ls hs h rs) H) : Ow F (hostA K p as hs h :: rs) H := by
  refine own_swap (own_ex.mpr ⟨(el, hd, sp, ls), own_sep.mpr (own_pur.mpr ⟨⟨hl, hl2⟩, ?_⟩)⟩)
  have e : openA K p el hd sp as ls hs h rs = openA K p el hd sp as ls hs h [] ++ rs := by rw [openA_app]; rfl
  rw [e] at o
  have o2 : Own (fz F :: (openA K p el hd sp as ls hs h [] ++ rs).map fun r => r.ck F) H := o
  rw [List.map_append] at o2
  exact own_perm (List.perm_middle.symm) o2
theorem g_openA (k : ∀ el hd sp ls, as.length = h.ends.length → ls.length = hs.length → G K F0 t D ds (openA K p el hd sp as ls hs h rs)) : G K F0 t D ds (hostA K p as hs h :: rs) := fun σ F H s vs o => by
  obtain ⟨el, hd, sp, ls, hl, hl2, o2⟩ := hostA_open o
  exact k el hd sp ls hl hl2 σ F H s vs o2
theorem g_closeA (hl : as.length = h.ends.length) (hl2 : ls.length = hs.length) (k : G K F0 t D ds (hostA K p as hs h :: rs)) : G K F0 t D ds (openA K p el hd sp as ls hs h rs) := fun σ F H s vs o => k σ F H s vs (hostA_close hl hl2 o)
theorem hostA_of_raw {f : Int} (e : fs = hfs el hd sp (M.hnew f)) (o : Ow F (rawR K p (cH K) fs :: endR K sp (M.opened 0 0 f false) :: hk K hd [] :: ol K el [] :: r) H) : Ow F (hostA K p [] [] (M.hnew f) :: r) H := by
  rw [e] at o
  refine hostA_close (as := []) (ls := []) (el := el) (hd := hd) (sp := sp) rfl rfl ?_
  show Ow F (rawR K p (cH K) (hfs el hd sp (M.hnew f)) :: ol K el [] :: hk K hd [] :: endR K sp (M.opened 0 0 f false) :: r) H
  exact ow_in (fun _ _ o => ow_in (fun _ _ o => ow_swap o) (ow_swap (ow_in (fun _ _ o => ow_swap o) o))) o
/-- a method, of a host -/
theorem methA {R : List Da → List Rs → Da → List Rs → Prop} {X : XK} (ho : Ev K rs te ds (.ref p) rs1) (hp : Pick (hostA K p as hs h) rs1 rest) (hm : ∀ el hd sp h, (hfs el hd sp h).lookup m = none) (ha : EvA K rs1 tA ds l rs2) (hR : R (.ref p :: l) rs2 d rs3) :
    Ev K rs (tMeth (cH K) m (SpG K R) [] X te tA) ds d rs3 := fun σ F H vs o Q q => ho σ F H vs o _ fun x F1 H1 s1 dx o1 => by
  obtain ⟨el, hd, sp, ls, _, _, o2⟩ := hostA_open (ow_pick hp o1)
  obtain ⟨dx', ws, h1, o3⟩ := raw_out o2
  refine ⟨p, dx', ws, dx, pt_ok.mp (own_head o3), h1.no (hm _ _ _ _), ?_⟩
  refine ha σ F1 H1 (vs.mono s1) o1 _ fun us F2 H2 s2 dw o4 => ?_
  exact ⟨F2, .ref p :: l, _, d, _, by rw [List.append_nil, show x = V.ref p from dx]; exact ⟨_, _, rfl, rfl, dw⟩, o4, hR, fun v F3 H3 s3 dv o5 => q v F3 H3 ((s1.trans s2).trans s3) dv o5⟩
theorem methAE {R : List Da → List Rs → (Addr → Da) → (Addr → List Rs) → Prop} {X : XK} {f : Addr → Da} {g : Addr → List Rs} (ho : Ev K rs te ds (.ref p) rs1) (hp : Pick (hostA K p as hs h) rs1 rest) (hm : ∀ el hd sp h, (hfs el hd sp h).lookup m = none) (ha : EvA K rs1 tA ds l rs2) (hR : R (.ref p :: l) rs2 f g) :
    EvX K rs (tMeth (cH K) m (SpE K R) [] X te tA) ds f g := fun σ F H vs o Q q => ho σ F H vs o _ fun x F1 H1 s1 dx o1 => by
  obtain ⟨el, hd, sp, ls, _, _, o2⟩ := hostA_open (ow_pick hp o1)
  obtain ⟨dx', ws, h1, o3⟩ := raw_out o2
  refine ⟨p, dx', ws, dx, pt_ok.mp (own_head o3), h1.no (hm _ _ _ _), ?_⟩
  refine ha σ F1 H1 (vs.mono s1) o1 _ fun us F2 H2 s2 dw o4 => ?_
  exact ⟨F2, .ref p :: l, _, f, g, by rw [List.append_nil, show x = V.ref p from dx]; exact ⟨_, _, rfl, rfl, dw⟩, o4, hR, fun p v F3 H3 s3 => q p v F3 H3 ((s1.trans s2).trans s3)⟩
/-- .. that may raise, and does not -/
theorem methAX {R : List Da → List Rs → (Addr → Da) → (Addr → List Rs) → Prop} {RX : List Da → List Rs → Prop} {W : WX} {f : Addr → Da} {g : Addr → List Rs} (ho : Ev K rs te ds (.ref p) rs1) (hp : Pick (hostA K p as hs h) rs1 rest) (hm : ∀ el hd sp h, (hfs el hd sp h).lookup m = none) (ha : EvA K rs1 tA ds l rs2) (hR : R (.ref p :: l) rs2 f g) :
    EvX K rs (tMethS (cH K) m (SpEX K C R RX) (WE W) te tA) ds f g := fun σ F H vs o Q q => ho σ F H vs o _ fun x F1 H1 s1 dx o1 => by
  obtain ⟨el, hd, sp, ls, _, _, o2⟩ := hostA_open (ow_pick hp o1)
  obtain ⟨dx', ws, h1, o3⟩ := raw_out o2
  refine ⟨p, dx', ws, dx, pt_ok.mp (own_head o3), h1.no (hm _ _ _ _), ?_⟩
  refine ha σ F1 H1 (vs.mono s1) o1 _ fun us F2 H2 s2 dw o4 => ?_
  exact ⟨F2, .ref p :: l, _, by rw [show x = V.ref p from dx]; exact ⟨_, _, rfl, rfl, dw⟩, o4, .inl ⟨f, g, hR, fun p v F3 H3 s3 => q p v F3 H3 ((s1.trans s2).trans s3)⟩⟩
/-- p.m(..), in a try, that raises or not -/
theorem g_dropT {R : List Da → List Rs → (Addr → Da) → (Addr → List Rs) → Prop} {RX : List Da → List Rs → Prop} {c : Value} {ts : Addr → Value → Option Addr → TS} {Wout : WX} {D1 : Ends} (ho : Ev K rs te ds (.ref p) rs1) (hp : Pick (hostA K p as hs h) rs1 rest) (hm : ∀ el hd sp h, (hfs el hd sp h).lookup m = none) (ha : EvA K rs1 tA ds l rs2)
    (hR : (∃ f g, R (.ref p :: l) rs2 f g ∧ ∀ a, G K F0 tNext D ds (g a)) ∨ (RX (.ref p :: l) rs2 ∧ PySem.W.exmOne K (.ref C) c = some true ∧
      ∀ a, G K F0 (ts a (.ref C) none) { nx := fun σ' H' => D1.nx (σ'.set jj none) H', rt := D1.rt, bk := fun σ' H' => D1.bk (σ'.set jj none) H', ct := fun σ' H' => D1.ct (σ'.set jj none) H' } (ds.set jj (some (.ref a))) rs2)) :
    G K F0 (tDrop (tMethS (cH K) m (SpEX K C R RX) (WE (wAs K c jj ts Wout D1)) te tA)) D ds rs := fun σ F H s vs o => ho σ F H vs o _ fun x F1 H1 s1 dx o1 => by
  obtain ⟨el, hd, sp, ls, _, _, o2⟩ := hostA_open (ow_pick hp o1)
  obtain ⟨dx', ws, h1, o3⟩ := raw_out o2
  refine ⟨p, dx', ws, dx, pt_ok.mp (own_head o3), h1.no (hm _ _ _ _), ?_⟩
  refine ha σ F1 H1 (vs.mono s1) o1 _ fun us F2 H2 s2 dw o4 => ?_
  refine ⟨F2, .ref p :: l, _, by rw [show x = V.ref p from dx]; exact ⟨_, _, rfl, rfl, dw⟩, o4, ?_⟩
  rcases hR with ⟨f, g, hR, k⟩ | ⟨hR, hx, k⟩
  · exact .inl ⟨f, g, hR, fun a v F3 H3 s3 dv o5 => k a _ F3 H3 (s.trans ((s1.trans s2).trans s3)) (vs.mono ((s1.trans s2).trans s3)) o5⟩
  · exact .inr ⟨hR, fun F3 H3 s3 o5 => ⟨true, hx, fun _ a _ => k a _ F3 H3 (s.trans ((s1.trans s2).trans s3)) ((vs.mono ((s1.trans s2).trans s3)).set rfl) o5, fun z => by cases z⟩⟩
/-- the body of a try -/
theorem g_try0 {t : Ends → TS} (k : G K F0 (t { D with nx := tz D }) { D with nx := tz D } ds rs) : G K F0 (tSeq (fun D σ H => t D D σ H) tz) D ds rs := k
end
end Lg

/-! What the methods of hosts that hear answer. -/
namespace M
def hit (a b : Int) (e : EndS) : Bool := decide (e.ours = a) && (decide (e.theirs = b) && !decide (e.state = .closed))
def wants (s : Seg) : Bool := has s 2 && (!has s 16 && !has s 4)
def hfirst (h : HostS) : HostS := { h with first := plus h.first 64000 }
def hadd (h : HostS) (e : EndS) : HostS := { h with ends := h.ends ++ [e] }
def hset (h : HostS) (i : Nat) (e : EndS) : HostS := { h with ends := h.ends.set i e }
def howed (h : HostS) (s : Seg) : HostS := if (!has s 4) = true then { h with spare := E.reset_for { h.spare with ours := s.goal } s } else h
end M
namespace Lg
open PySem PySem.Spec PyProof.Rows L2 Wr
def addH : List (Int × List Addr) → Int → Addr → List (Int × List Addr)
  | [], _, _ => []
  | (k, qs) :: r, p, q => if (p == k) = true then (k, qs ++ [q]) :: r else (k, qs) :: addH r p q
theorem addH_len {p : Int} {q : Addr} : ∀ {hs : List (Int × List Addr)}, (addH hs p q).length = hs.length
  | [] => rfl
  | (k, qs) :: r => by
    unfold addH
    split
    · rfl
    · rw [List.length_cons, List.length_cons, addH_len]
theorem addH_fst {p : Int} {q : Addr} : ∀ {hs : List (Int × List Addr)}, (addH hs p q).map Prod.fst = hs.map Prod.fst
  | [] => rfl
  | (k, qs) :: r => by
    unfold addH
    split
    · rfl
    · rw [List.map_cons, List.map_cons, addH_fst]
theorem put_app {α : Type} {a b : α} {l r : List α} (p : Put a b l r) : ∀ pre : List α, Put a b (pre ++ l) (pre ++ r)
  | [] => p
  | x :: pre => .there (put_app p pre)
theorem pick_app {α : Type} {a : α} {l r : List α} (p : Pick a l r) : ∀ pre : List α, Pick a (pre ++ l) (pre ++ r)
  | [] => p
  | x :: pre => .there (pick_app p pre)
section
variable {K : PySem.W.Frag} {F0 F H : Hp} {D : Ends} {ds : List (Option Da)} {rs r : List Rs} {t : TS} {p q el hd sp : Addr} {h : M.HostS} {as : List Addr} {e : M.EndS} {port : Int}
theorem heard_is : ∀ {ls : List Addr} {hs : List (Int × List Addr)}, ls.length = hs.length → (((hs.map Prod.fst).zip ls).lookup port).isSome = (hs.lookup port).isSome
  | [], [], _ => rfl
  | [], _ :: _, h => by cases h
  | _ :: _, [], h => by cases h
  | l :: ls, (k, qs) :: hs, h => by
    show (((k, l) :: (hs.map Prod.fst).zip ls).lookup port).isSome = (((k, qs) :: hs).lookup port).isSome
    rw [List.lookup_cons, List.lookup_cons]
    split
    · rfl
    · exact heard_is (by simpa using h)
theorem heard_at : ∀ {ls : List Addr} {hs : List (Int × List Addr)} {qs : List Addr}, ls.length = hs.length → hs.lookup port = some qs →
    ∃ la, ((hs.map Prod.fst).zip ls).lookup port = some la ∧ (∀ q r, Put (ol K la (qs.map Da.ref)) (ol K la (qs.map Da.ref ++ [Da.ref q])) (lsR K ls hs ++ r) (lsR K ls (addH hs port q) ++ r)) ∧ ∀ r, ∃ rest, Pick (ol K la (qs.map Da.ref)) (lsR K ls hs ++ r) rest
  | [], [], _, _, h => by cases h
  | [], _ :: _, _, h, _ => by cases h
  | _ :: _, [], _, h, _ => by cases h
  | l :: ls, (k, qs) :: hs, qs', h, hq => by
    rw [List.lookup_cons] at hq
    show ∃ la, ((k, l) :: (hs.map Prod.fst).zip ls).lookup port = some la ∧ _
    rw [List.lookup_cons]
    by_cases z : (port == k) = true
    · rw [z] at hq ⊢
      obtain rfl := Option.some.inj hq
      refine ⟨l, rfl, fun q r => ?_, fun r => ⟨_, .here⟩⟩
      have e : addH ((k, qs) :: hs) port q = (k, qs ++ [q]) :: hs := by unfold addH; rw [if_pos z]
      rw [e]
      show Put _ _ (ol K l (qs.map Da.ref) :: (lsR K ls hs ++ r)) (ol K l ((qs ++ [q]).map Da.ref) :: (lsR K ls hs ++ r))
      rw [List.map_append]
      exact .here
    · have z' : (port == k) = false := by simpa using z
      rw [z'] at hq ⊢
      obtain ⟨la, h1, h2, h3⟩ := heard_at (by simpa using h) hq
      refine ⟨la, h1, fun q r => ?_, fun r => ?_⟩
      · have e : addH ((k, qs) :: hs) port q = (k, qs) :: addH hs port q := by conv => lhs; unfold addH; rw [if_neg z]
        rw [e]
        exact .there (h2 q r)
      · obtain ⟨rest, h4⟩ := h3 r
        exact ⟨_, .there h4⟩
theorem lsR_snoc {a : Addr} {x : Int} : ∀ {ls : List Addr} {hs : List (Int × List Addr)}, ls.length = hs.length → lsR K (ls ++ [a]) (hs ++ [(x, [])]) = lsR K ls hs ++ [ol K a []]
  | [], [], _ => rfl
  | [], _ :: _, h => by cases h
  | _ :: _, [], h => by cases h
  | l :: ls, (k, qs) :: hs, h => by
    show ol K l _ :: lsR K (ls ++ [a]) (hs ++ [(x, [])]) = ol K l _ :: (lsR K ls hs ++ [ol K a []])
    rw [lsR_snoc (by simpa using h)]
theorem g_snocA {ls : List Addr} {hs : List (Int × List Addr)} (hl : as.length = h.ends.length) (hl2 : ls.length = hs.length) (k : G K F0 t D ds (hostA K p (as ++ [q]) hs (M.hadd h e) :: r)) :
    G K F0 t D ds (rawR K p (cH K) (hfs el hd sp h) :: ol K el (as.map Da.ref ++ [.ref q]) :: hk K hd ((hs.map Prod.fst).zip ls) :: endR K sp h.spare :: (endsR K as h.ends ++ (lsR K ls hs ++ (endR K q e :: r)))) := fun σ F H s vs o => by
  refine k σ F H s vs (hostA_close (as := as ++ [q]) (ls := ls) (el := el) (hd := hd) (sp := sp) (by show (as ++ [q]).length = (h.ends ++ [_]).length; rw [List.length_append, List.length_append, hl]; rfl) hl2 (ow_perm ?_ o))
  show List.Perm _ (rawR K p (cH K) (hfs el hd sp h) :: ol K el ((as ++ [q]).map Da.ref) :: hk K hd ((hs.map Prod.fst).zip ls) :: endR K sp h.spare :: (endsR K (as ++ [q]) (h.ends ++ [e]) ++ (lsR K ls hs ++ r)))
  rw [endsR_snoc hl, List.map_append, List.append_assoc]
  refine List.Perm.cons _ (List.Perm.cons _ (List.Perm.cons _ (List.Perm.cons _ (List.Perm.append_left _ ?_))))
  exact List.perm_middle
theorem g_hearA {ls : List Addr} {hs : List (Int × List Addr)} {x : Int} {a : Addr} (hl : as.length = h.ends.length) (hl2 : ls.length = hs.length) (k : G K F0 t D ds (hostA K p as (hs ++ [(x, [])]) h :: r)) :
    G K F0 t D ds (ol K a [] :: rawR K p (cH K) (hfs el hd sp h) :: ol K el (as.map Da.ref) :: hk K hd ((hs.map Prod.fst).zip ls ++ [(x, a)]) :: endR K sp h.spare :: (endsR K as h.ends ++ (lsR K ls hs ++ r))) := fun σ F H s vs o => by
  refine k σ F H s vs (hostA_close (as := as) (ls := ls ++ [a]) (el := el) (hd := hd) (sp := sp) hl (by rw [List.length_append, List.length_append, hl2]; rfl) (ow_perm ?_ o))
  show List.Perm _ (rawR K p (cH K) (hfs el hd sp h) :: ol K el (as.map Da.ref) :: hk K hd (((hs ++ [(x, [])]).map Prod.fst).zip (ls ++ [a])) :: endR K sp h.spare :: (endsR K as h.ends ++ (lsR K (ls ++ [a]) (hs ++ [(x, [])]) ++ r)))
  rw [lsR_snoc hl2, List.map_append, List.zip_append (by rw [List.length_map, hl2]), List.append_assoc]
  show List.Perm (ol K a [] :: ([_, _, _, _] ++ (endsR K as h.ends ++ (lsR K ls hs ++ r)))) ([_, _, _, _] ++ (endsR K as h.ends ++ (lsR K ls hs ++ (ol K a [] :: r))))
  rw [← List.append_assoc, ← List.append_assoc, ← List.append_assoc, ← List.append_assoc]
  exact List.perm_middle.symm
/-! what the methods answer -/
def R_initA (K : PySem.W.Frag) (l : List Da) (rs : List Rs) (d : Da) (rs' : List Rs) : Prop := ∃ p f r, l = [.ref p, .int f] ∧ rs = rawR K p (cH K) [] :: r ∧ d = .non ∧ rs' = hostA K p [] [] (M.hnew f) :: r
def R_nextA (K : PySem.W.Frag) (l : List Da) (rs : List Rs) (d : Da) (rs' : List Rs) : Prop := ∃ p as hs h r, l = [.ref p] ∧ rs = hostA K p as hs h :: r ∧ d = .int h.first ∧ rs' = hostA K p as hs (M.hfirst h) :: r
def R_foundA (K : PySem.W.Frag) (l : List Da) (rs : List Rs) (d : Da) (rs' : List Rs) : Prop := ∃ p as hs h a b r, l = [.ref p, .int a, .int b] ∧ rs = hostA K p as hs h :: r ∧ rs' = hostA K p as hs h :: r ∧
  (((∀ e ∈ h.ends, M.hit a b e = false) ∧ d = .non) ∨ ∃ i : Nat, ∃ q e, as[i]? = some q ∧ h.ends[i]? = some e ∧ M.hit a b e = true ∧ (∀ (j : Nat) e', j < i → h.ends[j]? = some e' → M.hit a b e' = false) ∧ d = .ref q)
def e_listens (K : PySem.W.Frag) (l : List Da) (rs : List Rs) (f : Addr → Da) (g : Addr → List Rs) : Prop := ∃ p as hs h port r, l = [.ref p, .int port] ∧ rs = hostA K p as hs h :: r ∧ hs.lookup port = none ∧ hs.length ≤ 1000 ∧ f = (fun _ => .non) ∧ g = fun _ => hostA K p as (hs ++ [(port, [])]) h :: r
def x_listens (K : PySem.W.Frag) (l : List Da) (rs : List Rs) : Prop := ∃ p as hs h port r, l = [.ref p, .int port] ∧ rs = hostA K p as hs h :: r ∧ (hs.lookup port).isSome = true
def e_callsA (K : PySem.W.Frag) (l : List Da) (rs : List Rs) (f : Addr → Da) (g : Addr → List Rs) : Prop := ∃ p as hs h a b r, l = [.ref p, .int a, .int b] ∧ h.ends.length ≤ 1000 ∧ (∀ e ∈ h.ends, M.hit a b e = false) ∧ rs = hostA K p as hs h :: r ∧ f = (fun q => .ref q) ∧ g = fun q => hostA K p (as ++ [q]) hs (M.hadd (M.hfirst h) (M.opened a b h.first true)) :: r
def x_callsA (K : PySem.W.Frag) (l : List Da) (rs : List Rs) : Prop := ∃ p as hs h a b r, l = [.ref p, .int a, .int b] ∧ rs = hostA K p as hs h :: r ∧ ∃ i : Nat, ∃ q e, as[i]? = some q ∧ h.ends[i]? = some e ∧ M.hit a b e = true ∧ (∀ (j : Nat) e', j < i → h.ends[j]? = some e' → M.hit a b e' = false)
def e_takenA (K : PySem.W.Frag) (l : List Da) (rs : List Rs) (f : Addr → Da) (g : Addr → List Rs) : Prop := ∃ p as hs h port r, l = [.ref p, .int port] ∧ rs = hostA K p as hs h :: r ∧ hs.lookup port = some [] ∧ f = (fun _ => .non) ∧ g = fun _ => hostA K p as hs h :: r
def x_takenA (K : PySem.W.Frag) (l : List Da) (rs : List Rs) : Prop := ∃ p as hs h port r, l = [.ref p, .int port] ∧ rs = hostA K p as hs h :: r ∧ (hs.lookup port).isSome = false
def HsSz (hs : List (Int × List Addr)) : Prop := ∀ port qs, hs.lookup port = some qs → qs.length ≤ 1000
def e_made (K : PySem.W.Frag) (l : List Da) (rs : List Rs) (f : Addr → Da) (g : Addr → List Rs) : Prop := ∃ p as hs h s r, l = [.ref p, sg s] ∧ h.ends.length ≤ 1000 ∧ HsSz hs ∧ rs = hostA K p as hs h :: r ∧
  (((M.wants s && (hs.lookup s.goal).isSome) = true ∧ f = (fun q => .ref q) ∧ g = fun q => hostA K p (as ++ [q]) (addH hs s.goal q) (M.hadd (M.hfirst h) (M.opened s.goal s.src h.first false)) :: r) ∨
   ((M.wants s && (hs.lookup s.goal).isSome) = false ∧ f = (fun _ => .non) ∧ g = fun _ => hostA K p as hs (M.howed h s) :: r))
def e_arrives (K : PySem.W.Frag) (l : List Da) (rs : List Rs) (f : Addr → Da) (g : Addr → List Rs) : Prop := ∃ p as hs h row now r, l = [.ref p, li row, .int now] ∧ row.length ≤ 900 ∧ h.ends.length ≤ 1000 ∧ HsSz hs ∧ (∀ e ∈ h.ends, PSz e.pile) ∧ rs = hostA K p as hs h :: r ∧
  ((M.isRight row = false ∧ f = (fun _ => .bl false) ∧ g = fun _ => hostA K p as hs h :: r) ∨
   (M.isRight row = true ∧ f = (fun _ => .bl true) ∧
    (((∀ e ∈ h.ends, M.hit (M.getS row).goal (M.getS row).src e = false) ∧ (M.wants (M.getS row) && (hs.lookup (M.getS row).goal).isSome) = true ∧
        g = fun q => hostA K p (as ++ [q]) (addH hs (M.getS row).goal q) (M.hadd (M.hfirst h) (E.arrive_segment (M.opened (M.getS row).goal (M.getS row).src h.first false) (M.getS row) now).1) :: r) ∨
     ((∀ e ∈ h.ends, M.hit (M.getS row).goal (M.getS row).src e = false) ∧ (M.wants (M.getS row) && (hs.lookup (M.getS row).goal).isSome) = false ∧ g = fun _ => hostA K p as hs (M.howed h (M.getS row)) :: r) ∨
     (∃ i : Nat, ∃ q e, as[i]? = some q ∧ h.ends[i]? = some e ∧ M.hit (M.getS row).goal (M.getS row).src e = true ∧ (∀ (j : Nat) e', j < i → h.ends[j]? = some e' → M.hit (M.getS row).goal (M.getS row).src e' = false) ∧ g = fun _ => hostA K p as hs (M.hset h i (E.arrive_segment e (M.getS row) now).1) :: r))))
def R_sendsA (K : PySem.W.Frag) (l : List Da) (rs : List Rs) (d : Da) (rs' : List Rs) : Prop := ∃ p as hs h now r, l = [.ref p, .int now] ∧ M.HSz h ∧ rs = hostA K p as hs h :: r ∧ d = li (M.hsends h now).2 ∧ rs' = hostA K p as hs (M.hsends h now).1 :: r
end
end Lg
namespace Lg
open PySem PySem.Spec PyProof.Rows L2 Wr
section
variable {K : PySem.W.Frag} {F0 : Hp} {D : Ends} {ds : List (Option Da)} {rs rs1 rs2 r : List Rs} {tA : TA} {te : TE} {ii : Nat} {p : Addr} {l : List Da} {d : Da}
theorem g_asgV1 {f : Addr → Da} {g : Addr → List Rs} (h : EvX K rs te ds f g) (k : ∀ p, G K F0 tNext D (ds.set ii (some (f p))) (g p)) : G K F0 (tAsg te (gName ii)) D ds rs := g_asgV (tz := tNext) h k
end
end Lg

namespace M
theorem hz_go {now : Int} : ∀ {n k : Nat} {h : HostS}, HSz h → HSz (hgo now n k h).1
  | 0, _, _, hz => hz
  | n + 1, k, h, hz => by
    unfold hgo
    cases he : h.ends[hidx h k]? with
    | none => exact hz
    | some e =>
      have hze := sz_send (now := now) (hz.en e (List.mem_of_getElem? he))
      show HSz (if (!(E.send e now).2.isEmpty) = true then (({ h with ends := h.ends.set (hidx h k) (E.send e now).1, turn := (h.turn + (k : Int) + 1) % (h.ends.length : Int) }, (E.send e now).2) : HostS × List Int) else hgo now n (k + 1) { h with ends := h.ends.set (hidx h k) (E.send e now).1 }).1
      split
      · exact ⟨hz.sp, (hz_set hz hze).en, (hz_set hz hze).nu⟩
      · exact hz_go (hz_set hz hze)
theorem hz_sends {now : Int} {h : HostS} (hz : HSz h) : HSz (hsends h now).1 := by
  have h0 : HSz { h with spare := (E.send h.spare now).1 } := ⟨sz_send hz.sp, hz.en, hz.nu⟩
  unfold hsends
  split
  · exact h0
  · exact hz_go h0
theorem hz_new (f : Int) : HSz (hnew f) := ⟨sz_opened _ _ _ _, (fun e he => nomatch he), Nat.zero_le _⟩
theorem new_quiet (f now : Int) : hsends (hnew f) now = (hnew f, []) := hs_quiet rfl fun e he => by cases he
theorem set_cut {row : List Int} {i : Nat} {v : Int} (h : i < row.length) : sl row none (some (i : Int)) ++ [v] ++ sl row (some ((i : Int) + 1)) none = row.set i v := by
  rw [sl_to, show (i : Int) + 1 = ((i + 1 : Nat) : Int) by omega, sl_from, List.set_eq_take_append_cons_drop, if_pos h]
  simp
/-- what goes -/
def due41 (s : Seg) (port f : Int) : List Int :=
  if has s 4 = true then [] else if has s 16 = true then put ⟨s.goal, s.src, s.ans, 0, 4, 0, 0, []⟩ else
    if (decide (s.goal = port) && has s 2) = true then put ⟨s.goal, s.src, f, plus s.num 1, 18, 64, 16, []⟩ else put ⟨s.goal, s.src, 0, plus s.num (length s), 20, 0, 0, []⟩
theorem put_ne41 (s : Seg) : put s ≠ [] := by
  intro z
  have : (put s).length = 0 := by rw [z]; rfl
  rw [put_len] at this
  omega
def come1 (s : Seg) (f : Int) : EndS := { opened s.goal s.src f false with rcv := plus s.num 1, wnd := s.win, told := s.num, told_by := 0, state := .synCome, most := if decide (0 < s.most) = true then s.most else 12 }
theorem come41 {s : Seg} {f now : Int} (h2 : has s 2 = true) (h16 : has s 16 = false) (h4 : has s 4 = false) : (E.arrive_segment (opened s.goal s.src f false) s now).1 = come1 s f := by
  unfold come1
  by_cases hm : 0 < s.most <;> simp [E.arrive_segment, E.at_listen, E.hear_syn, E.hear_window, opened, E.inS, h2, h16, h4, hm]
def come2 (s : Seg) (f now : Int) : EndS := { come1 s f with nxt := plus f 1, since := now }
theorem goes41 {s : Seg} {f now : Int} : E.send (come1 s f) now = (come2 s f now, put ⟨s.goal, s.src, f, plus s.num 1, 18, 64, 16, []⟩) := by
  simp [E.send, E.send2, come1, come2, opened, E.inS, E.outstanding, offset_self, E.syn_goes, E.syn2, start, E.syn_made]
theorem still41 {s : Seg} {f now : Int} (hf : 0 ≤ f ∧ f < 4294967296) : E.send (come2 s f now) now = (come2 s f now, []) := by
  have h1 : plus f 1 ≠ f := by unfold plus; omega
  simp [E.send, E.send2, come1, come2, opened, E.inS, E.outstanding, E.answer_goes, h1]
theorem sends41 {s : Seg} {port f : Int} {h1 : HostS} (hf : 0 ≤ f ∧ f < 4294967296)
    (hh : ((wants s && decide (s.goal = port)) = true ∧ h1 = hadd (hfirst (hnew f)) (E.arrive_segment (opened s.goal s.src f false) s 2).1) ∨ ((wants s && decide (s.goal = port)) = false ∧ h1 = howed (hnew f) s)) :
    ∃ h2, hsends h1 2 = (h2, due41 s port f) ∧ (due41 s port f = [] ∨ hsends h2 2 = (h2, [])) := by
  unfold wants at hh
  rcases hh with ⟨hw, rfl⟩ | ⟨hw, rfl⟩
  · simp only [Bool.and_eq_true, Bool.not_eq_true', decide_eq_true_eq] at hw
    obtain ⟨⟨w2, w16, w4⟩, hg⟩ := hw
    rw [come41 w2 w16 w4]
    have hd : due41 s port f = put ⟨s.goal, s.src, f, plus s.num 1, 18, 64, 16, []⟩ := by
      unfold due41
      rw [w4, w16, w2, decide_eq_true hg]
      rfl
    refine ⟨{ hadd (hfirst (hnew f)) (come1 s f) with ends := [come2 s f 2], turn := ((0 + 1 : Nat) : Int) % ((1 : Nat) : Int) }, ?_, .inr ?_⟩
    · rw [hd]
      exact hs_go (t := 0) (n := 1) (h := hadd (hfirst (hnew f)) (come1 s f)) rfl rfl rfl (by decide) rfl goes41 (put_ne41 _)
    · exact hs_quiet rfl fun e he => by
        have he2 : e ∈ [come2 s f 2] := he
        rw [List.mem_singleton] at he2
        rw [he2]
        exact still41 hf
  · cases w4 : has s 4 with
    | true =>
      have hd : due41 s port f = [] := by unfold due41; rw [w4]; rfl
      have hh : howed (hnew f) s = hnew f := by unfold howed; rw [w4]; rfl
      rw [hd, hh]
      exact ⟨hnew f, new_quiet f 2, .inl rfl⟩
    | false =>
      have hh : howed (hnew f) s = { hnew f with spare := E.reset_for { opened 0 0 f false with ours := s.goal } s } := by unfold howed; rw [w4]; rfl
      rw [hh]
      cases w16 : has s 16 with
      | true =>
        have hd : due41 s port f = put ⟨s.goal, s.src, s.ans, 0, 4, 0, 0, []⟩ := by unfold due41; rw [w4, w16]; rfl
        have he : E.send (E.reset_for { opened 0 0 f false with ours := s.goal } s) 2 = ({ opened 0 0 f false with ours := s.goal }, put ⟨s.goal, s.src, s.ans, 0, 4, 0, 0, []⟩) := by
          unfold E.reset_for
          rw [w16]
          rfl
        refine ⟨{ hnew f with spare := { opened 0 0 f false with ours := s.goal } }, ?_, .inr (hs_quiet rfl fun e he => by cases he)⟩
        unfold hsends
        show (if (!(E.send (E.reset_for { opened 0 0 f false with ours := s.goal } s) 2).2.isEmpty) = true then _ else _) = _
        rw [hd, he]
        rw [if_pos (by cases hp : put ⟨s.goal, s.src, s.ans, 0, 4, 0, 0, []⟩ with | nil => exact absurd hp (put_ne41 _) | cons a l => rfl)]
      | false =>
        have hng : (decide (s.goal = port) && has s 2) = false := by
          rw [w4, w16] at hw
          rw [Bool.and_comm]
          simpa using hw
        have hd : due41 s port f = put ⟨s.goal, s.src, 0, plus s.num (length s), 20, 0, 0, []⟩ := by unfold due41; rw [w4, w16, hng]; rfl
        have he : E.send (E.reset_for { opened 0 0 f false with ours := s.goal } s) 2 = ({ opened 0 0 f false with ours := s.goal }, put ⟨s.goal, s.src, 0, plus s.num (length s), 20, 0, 0, []⟩) := by
          unfold E.reset_for
          rw [w16]
          rfl
        refine ⟨{ hnew f with spare := { opened 0 0 f false with ours := s.goal } }, ?_, .inr (hs_quiet rfl fun e he => by cases he)⟩
        unfold hsends
        show (if (!(E.send (E.reset_for { opened 0 0 f false with ours := s.goal } s) 2).2.isEmpty) = true then _ else _) = _
        rw [hd, he]
        rw [if_pos (by cases hp : put ⟨s.goal, s.src, 0, plus s.num (length s), 20, 0, 0, []⟩ with | nil => exact absurd hp (put_ne41 _) | cons a l => rfl)]
theorem hz41 {s : Seg} {port f : Int} {h1 : HostS} (hd : s.data.length ≤ 1000) (hh : h1 = hadd (hfirst (hnew f)) (E.arrive_segment (opened s.goal s.src f false) s 2).1 ∨ h1 = howed (hnew f) s) : HSz h1 := by
  rcases hh with rfl | rfl
  · refine ⟨sz_opened _ _ _ _, fun e he => ?_, Nat.le_of_ble_eq_true rfl⟩
    have he2 : e ∈ [(E.arrive_segment (opened s.goal s.src f false) s 2).1] := he
    rw [List.mem_singleton] at he2
    rw [he2]
    exact sz_seg (sz_opened _ _ _ _)
  · unfold howed
    split
    · refine ⟨?_, (fun e he => nomatch he), Nat.zero_le _⟩
      show Sz (E.reset_for { opened 0 0 f false with ours := s.goal } s)
      unfold E.reset_for
      split
      · exact ⟨Nat.zero_le _, fun q hq => by cases hq; exact Nat.zero_le _⟩
      · exact ⟨Nat.zero_le _, fun q hq => by cases hq; exact Nat.zero_le _⟩
    · exact hz_new f
end M

namespace Lg
open PySem PySem.Spec PyProof.Rows L2 Wr
section
variable {K : PySem.W.Frag} {F0 F H : Hp} {D : Ends} {ds : List (Option Da)} {rs rs1 rs2 rs3 rest r : List Rs} {ta tb te : TE} {tA : TA} {tz tw t : TS} {tt tt2 : TT} {d : Da} {l : List Da} {p : Addr} {m : Str} {h h' : M.HostS} {as : List Addr} {hs : List (Int × List Addr)} {b1 b2 : Bool}
def R_ref (K : PySem.W.Frag) (l : List Da) (rs : List Rs) (d : Da) (rs' : List Rs) : Prop := ∃ p as hs h way a b r, l = [.ref p, .int way, .int a, .int b] ∧ rs = hostA K p as hs h :: r ∧
  ((way = 0 ∧ hs.lookup a = none ∧ hs.length ≤ 1000 ∧ d = .bl false ∧ rs' = hostA K p as (hs ++ [(a, [])]) h :: r) ∨
   (way = 0 ∧ (hs.lookup a).isSome = true ∧ d = .bl true ∧ rs' = hostA K p as hs h :: r) ∨
   (way = 1 ∧ h.ends.length ≤ 1000 ∧ (∀ e ∈ h.ends, M.hit a b e = false) ∧ d = .bl false ∧ rs' = r) ∨
   (way = 1 ∧ (∃ i : Nat, ∃ q e, as[i]? = some q ∧ h.ends[i]? = some e ∧ M.hit a b e = true ∧ (∀ (j : Nat) e', j < i → h.ends[j]? = some e' → M.hit a b e' = false)) ∧ d = .bl true ∧ rs' = r) ∨
   (way = 2 ∧ hs.lookup a = some [] ∧ d = .bl false ∧ rs' = hostA K p as hs h :: r) ∨
   (way = 2 ∧ (hs.lookup a).isSome = false ∧ d = .bl true ∧ rs' = hostA K p as hs h :: r))
theorem callG {R : List Da → List Rs → Da → List Rs → Prop} {X : XK} (h : EvA K rs tA ds l rs1) (hR : R l rs1 d rs2) : Ev K rs (tCall (SpG K R) [] X tA) ds d rs2 := fun σ F H vs o Q q =>
  h σ F H vs o _ fun ws F1 H1 s1 dw o1 => ⟨F1, l, rs1, d, rs2, by rw [List.append_nil]; exact dw, o1, hR, fun v F2 H2 s2 => q v F2 H2 (s1.trans s2)⟩
theorem evX_ev {g : Addr → List Rs} (h : EvX K rs te ds (fun _ => d) g) (hg : ∀ q F H, Ow F (g q) H → Ow F rs1 H) : Ev K rs te ds d rs1 := fun σ F H vs o Q q =>
  h σ F H vs o Q fun p v F1 H1 s1 dv o1 => q v F1 H1 s1 dv (hg p F1 H1 o1)
theorem g_dropX1 {f : Addr → Da} {g : Addr → List Rs} (h : EvX K rs te ds f g) (k : ∀ p, G K F0 tNext D ds (g p)) : G K F0 (tDrop te) D ds rs := g_dropX (tz := tNext) h k
theorem andV2 (h1 : Ev K rs ta ds (.bl b1) rs1) (h2 : b1 = true → Ev K rs1 tb ds (.bl b2) rs1) : Ev K rs (tAndV ta tb) ds (.bl (b1 && b2)) rs1 := fun σ F H vs o Q q => h1 σ F H vs o _ fun v F1 H1 s1 dx o1 => by
  refine ⟨b1, dx, ?_⟩
  cases h : b1 with
  | true =>
    rw [if_pos rfl]
    exact h2 h σ F1 H1 (vs.mono s1) o1 _ fun v2 F2 H2 s2 d2 o2 => q v2 F2 H2 (s1.trans s2) (by rw [h]; exact d2) o2
  | false =>
    rw [if_neg Bool.false_ne_true]
    rw [h] at q
    exact q _ F1 H1 s1 rfl o1
/-- a host whose addresses do not matter -/
def hostX (K : PySem.W.Frag) (p : Addr) (h : M.HostS) : Rs := ⟨fun F => exk fun (x : List Addr × List (Int × List Addr)) => (hostA K p x.1 x.2 h).ck F, fun F F' H s q => by
  obtain ⟨x, q⟩ := exk_ok.mp q
  exact exk_ok.mpr ⟨x, (hostA K p x.1 x.2 h).mo F F' H s q⟩⟩
theorem hostX_of (o : Ow F (hostA K p as hs h :: r) H) : Ow F (hostX K p h :: r) H := own_swap (own_ex.mpr ⟨(as, hs), own_swap o⟩)
theorem g_openX (k : ∀ as hs, G K F0 t D ds (hostA K p as hs h :: r)) : G K F0 t D ds (hostX K p h :: r) := fun σ F H s vs o => by
  obtain ⟨⟨as, hs⟩, o2⟩ := own_ex.mp (own_swap o)
  exact k as hs σ F H s vs (own_swap o2)
end
end Lg
namespace M
theorem look41 (pt a : Int) (qs : List PySem.Addr) : ([(pt, qs)] : List (Int × List PySem.Addr)).lookup a = if a = pt then some qs else none := by
  rw [List.lookup_cons]
  by_cases z : a = pt
  · subst z; simp
  · rw [show (a == pt) = false by simpa using z, if_neg z]; rfl
theorem length41 (s : Seg) : (s.data.length : Int) + s.flags / 2 % 2 + s.flags % 2 = length s := by
  unfold length has b2i
  have h1 : s.flags / 2 % 2 = 0 ∨ s.flags / 2 % 2 = 1 := by omega
  have h2 : s.flags / 1 % 2 = s.flags % 2 := by rw [Int.ediv_one]
  have h3 : s.flags % 2 = 0 ∨ s.flags % 2 = 1 := by omega
  rw [h2]
  rcases h1 with h1 | h1 <;> rcases h3 with h3 | h3 <;> rw [h1, h3] <;> simp
theorem call41 (a b f : Int) : ∃ h' e, (hsends (hadd (hfirst (hnew f)) (opened a b f true)) 1).1 = h' ∧ h'.ends[0]? = some e ∧ hit a b e = true ∧ h'.ends.length = 1 := by
  have e := hs_go (t := 0) (n := 1) (h := hadd (hfirst (hnew f)) (opened a b f true)) (now := 1) rfl rfl rfl (by decide) rfl (send_first a b f 1) (synB_ne _ _ _)
  refine ⟨_, called a b f 1 1000 0, by rw [e], rfl, ?_, rfl⟩
  unfold hit
  show (decide (a = a) && (decide (b = b) && true)) = true
  simp
theorem hz_hadd {a b f : Int} {act : Bool} : HSz (hadd (hfirst (hnew f)) (opened a b f act)) := ⟨sz_opened _ _ _ _, fun e he => by
  have he2 : e ∈ [opened a b f act] := he
  rw [List.mem_singleton] at he2
  rw [he2]
  exact sz_opened _ _ _ _, Nat.le_of_ble_eq_true rfl⟩
end M
namespace M
theorem goal_ok {s : Seg} (h : Ok s) {b : Int} (hb : 0 ≤ b ∧ b ≤ 65535) : Ok { s with goal := b } := { h with goal := hb }
theorem put_len41 {s : Seg} (h : Ok s) : (put s).length ≤ 40 ∧ 20 ≤ (put s).length := by
  have := h.len
  rw [put_len]
  split <;> omega
end M

/-! Both call at once: the ends, explicit. -/
namespace M
abbrev eSS (A B f : Int) (out : List Int) (si wa tr : Int) : EndS :=
  { ours := A, theirs := B, first := f, state := .synSent, una := f, nxt := plus f 1, synced := false, rcv := 0, wnd := 0, told := 0, told_by := 0, most := 12, out := out, pile := Pile0, fin := false, fin_gone := false, reset := none, owes_syn := false, owes_answer := false, since := si, wait := wa, tries := tr, probing := false, error := .none }
abbrev eSC (A B f g : Int) (out : List Int) (os oa : Bool) (si wa tr : Int) : EndS :=
  { ours := A, theirs := B, first := f, state := .synCome, una := f, nxt := plus f 1, synced := false, rcv := plus g 1, wnd := 64, told := g, told_by := 0, most := 16, out := out, pile := Pile0, fin := false, fin_gone := false, reset := none, owes_syn := os, owes_answer := oa, since := si, wait := wa, tries := tr, probing := false, error := .none }
abbrev eOP (A B f g u x r w t tb : Int) (out : List Int) (pl : PileS) (os oa : Bool) (si wa tr : Int) : EndS :=
  { ours := A, theirs := B, first := f, state := .opn, una := plus f u, nxt := plus f x, synced := true, rcv := plus g r, wnd := w, told := t, told_by := tb, most := 16, out := out, pile := pl, fin := false, fin_gone := false, reset := none, owes_syn := os, owes_answer := oa, since := si, wait := wa, tries := tr, probing := false, error := .none }
abbrev pileW (d : List Int) (ea : List (Int × Int)) : PileS := ⟨d, (d.length : Int), ea, none⟩
section
variable {A B f g w t tb si wa tr now : Int} {out D D' : List Int} {pl : PileS} {os oa : Bool} {ea : List (Int × Int)} {u x r fl : Int}
theorem off_m1 {g : Int} (hg : 0 ≤ g ∧ g ≤ 4294967295) {r : Int} (hr : 0 ≤ r ∧ r ≤ 1000) : offset g (plus g r) = -r := by
  have := offset_pp (a := g) (i := 0) (j := r) (by omega)
  rw [plus0 hg] at this
  rw [this]; omega
theorem a14_1 : E.arrive_segment (eSS A B f out si wa tr) ⟨B, A, g, 0, 2, 64, 16, []⟩ now = (eSC A B f g out true false now 1000 0, true) := by
  simp [E.arrive_segment, E.inS, E.at_syn_sent, M.has, E.hear_syn, E.hear_window, start]
theorem a14_2 (hf : 0 ≤ f ∧ f ≤ 4294967295) : E.arrive_segment (eSS A B f out si wa tr) ⟨B, A, g, plus f 1, 18, 64, 16, []⟩ now = (eOP A B f g 1 1 1 64 g (plus f 1) out Pile0 false true si wa tr, true) := by
  have hn : ¬ plus f 1 = f := plus_ne hf
  simp [E.arrive_segment, E.inS, E.at_syn_sent, M.has, E.hear_syn, E.hear_window, hn]
theorem a14_3 (hg : 0 ≤ g ∧ g ≤ 4294967295) : E.arrive_segment (eSC A B f g out os oa si wa tr) ⟨B, A, g, 0, 2, 64, 16, []⟩ now = (eSC A B f g out true oa si wa tr, true) := by
  have ho := off_m1 hg (r := 1) (by omega)
  simp [E.arrive_segment, E.inS, E.at_others, E.fits, M.length, M.b2i, M.has, ho, E.out_of_place, E.oop2, room, Pile0]
theorem a14_4 (hg : 0 ≤ g ∧ g ≤ 4294967295) : E.arrive_segment (eSC A B f g out os oa si wa tr) ⟨B, A, g, plus f 1, 18, 64, 16, []⟩ now = (eSC A B f g out os true si wa tr, true) := by
  have ho := off_m1 hg (r := 1) (by omega)
  simp [E.arrive_segment, E.inS, E.at_others, E.fits, M.length, M.b2i, M.has, ho, E.out_of_place, E.oop2, room, Pile0]
theorem a14_5 (hf : 0 ≤ f ∧ f ≤ 4294967295) : E.arrive_segment (eSC A B f g out os oa si wa tr) ⟨B, A, plus g 1, plus f 1, 16, w, 0, []⟩ now = (eOP A B f g 1 1 1 w (plus g 1) (plus f 1) out Pile0 os oa si wa tr, true) := by
  have hn : ¬ plus f 1 = f := plus_ne hf
  have hs : settle { held := [], come := 0, early := [], last := none } = ({ held := [], come := 0, early := [], last := none }, 0) := settle_none rfl
  simp [E.arrive_segment, E.at_others, E.fits, E.inS, M.has, M.length, M.b2i, offset_self, E.answer_comes, E.first_answer, hn, E.hear_window, E.data_comes, E.dc2, E.dc3, hs, Pile0, is_over, plus_plus]
theorem keep0 {D' : List Int} (h8 : D'.length ≤ 16) : ∃ ea, settle (keep Pile0 0 D') = (pileW D' ea, (D'.length : Int)) ∧ (getK ea (D'.length : Int) = none ∧ ea.length ≤ 16) := by
  obtain ⟨ea, h1, h2⟩ := settle_keep (q := Pile0) (data := D') (fun k _ => rfl) rfl (by show (D'.length : Int) ≤ 64 - 0; omega)
  have e : settle (keep Pile0 0 D') = (pileW D' ea, (D'.length : Int)) := by
    rw [h1]
    simp [Pile0]
  have p1 := settle_pn (keep Pile0 0 D')
  have p2 := keep_pn Pile0 0 D'
  rw [e] at p1
  have p3 : D'.length + ea.length ≤ PN (keep Pile0 0 D') := p1
  have p4 : PN Pile0 = 0 := rfl
  exact ⟨ea, e, h2 _ (by show 0 + _ ≤ _; omega), by omega⟩
theorem a14_6 (hf : 0 ≤ f ∧ f ≤ 4294967295) (h1 : 1 ≤ D'.length) (h8 : D'.length ≤ 16) (hfl : fl = 16 ∨ fl = 24) :
    ∃ ea, (getK ea (D'.length : Int) = none ∧ ea.length ≤ 16) ∧ E.arrive_segment (eSC A B f g out os oa si wa tr) ⟨B, A, plus g 1, plus f 1, fl, w, 0, D'⟩ now = (eOP A B f g 1 1 (1 + (D'.length : Int)) w (plus g 1) (plus f 1) out (pileW D' ea) os true si wa tr, true) := by
  have hn : ¬ plus f 1 = f := plus_ne hf
  obtain ⟨ea, k1, k2⟩ := keep0 h8
  have k1' : settle (keep { held := [], come := 0, early := [], last := none } 0 D') = (pileW D' ea, (D'.length : Int)) := k1
  have hne : D' ≠ [] := fun z => by rw [z] at h1; simp at h1
  have hl : (D'.length : Int) ≠ 0 := by omega
  have hp : 0 < D'.length := h1
  refine ⟨ea, k2, ?_⟩
  rcases hfl with rfl | rfl <;>
  simp [E.arrive_segment, E.at_others, E.fits, E.inS, M.has, M.length, M.b2i, offset_self, E.answer_comes, E.first_answer, hn, E.hear_window, E.data_comes, E.dc2, E.dc3, k1', hne, hl, is_over, plus_plus, room, Pile0, hp]
/-- what does not fit an open end -/
theorem a14_7 (hg : 0 ≤ g ∧ g ≤ 4294967295) (hr : 1 ≤ r ∧ r ≤ 17) : E.arrive_segment (eOP A B f g u x r w t tb out pl os oa si wa tr) ⟨B, A, g, 0, 2, 64, 16, []⟩ now = (eOP A B f g u x r w t tb out pl os true si wa tr, true) := by
  have ho := off_m1 hg (r := r) (by omega)
  have h1 : ¬ r ≤ 0 := by omega
  have h2 : ¬ -r < room pl ∨ True := .inr trivial
  simp [E.arrive_segment, E.inS, E.at_others, E.fits, M.length, M.b2i, M.has, ho, E.out_of_place, E.oop2, h1]
theorem a14_8 (hg : 0 ≤ g ∧ g ≤ 4294967295) (hr : 1 ≤ r ∧ r ≤ 17) : E.arrive_segment (eOP A B f g u x r w t tb out pl os oa si wa tr) ⟨B, A, g, plus f 1, 18, 64, 16, []⟩ now = (eOP A B f g u x r w t tb out pl os true si wa tr, true) := by
  have ho := off_m1 hg (r := r) (by omega)
  have h1 : ¬ r ≤ 0 := by omega
  simp [E.arrive_segment, E.inS, E.at_others, E.fits, M.length, M.b2i, M.has, ho, E.out_of_place, E.oop2, h1]
theorem a14_11 (h1 : 1 ≤ D'.length) (h8 : D'.length ≤ 16) (hfl : fl = 16 ∨ fl = 24) {z w' : Int} : E.arrive_segment (eOP A B f g u x (1 + (D'.length : Int)) w t tb out pl os oa si wa tr) ⟨B, A, plus g 1, z, fl, w', 0, D'⟩ now = (eOP A B f g u x (1 + (D'.length : Int)) w t tb out pl os true si wa tr, true) := by
  have ho : offset (plus g 1) (plus g (1 + (D'.length : Int))) = -(D'.length : Int) := by rw [offset_pp (by omega)]; omega
  have hl : (D'.length : Int) ≠ 0 := by omega
  have hne : D' ≠ [] := fun z => by rw [z] at h1; simp at h1
  have h2 : ¬ (0 : Int) ≤ -(D'.length : Int) := by omega
  have h3 : -(D'.length : Int) + (D'.length : Int) - 1 = -1 := by omega
  rcases hfl with rfl | rfl <;>
  simp [E.arrive_segment, E.inS, E.at_others, E.fits, M.length, M.b2i, M.has, ho, E.out_of_place, E.oop2, hl, hne, h2, h3]
/-- the answer's part -/
theorem ans_same (hx : u ≤ x ∧ x ≤ u + 16) (hw : 0 < w) {s : Seg} (ha : s.ans = plus f u) (hw' : 0 < s.win) : ∃ w2 t2 tb2, (w2 = w ∨ w2 = s.win) ∧ E.answer_comes (eOP A B f g u x r w t tb out pl os oa si wa tr) s now = (eOP A B f g u x r w2 t2 tb2 out pl os oa si wa tr, true) := by
  have o1 : offset (plus f u) (plus f x) = u - x := by rw [offset_pp (by omega)]
  have h1 : ¬ 0 < u - x := by omega
  have n1 : ¬ x < u := by omega
  have hw0 : ¬ w = 0 := by omega
  have hw1 : ¬ s.win = 0 := by omega
  by_cases hnew : E.newer (eOP A B f g u x r w t tb out pl os oa si wa tr) s = true
  · refine ⟨s.win, s.num, s.ans, .inr rfl, ?_⟩
    rw [ha]
    simp [E.answer_comes, past, ha, o1, offset_self, n1, E.ac1, E.window_comes, hnew, E.wc2, E.hear_window, hw0, hw1, E.ac2, E.ac3]
  · refine ⟨w, t, tb, .inl rfl, ?_⟩
    have hnew : E.newer (eOP A B f g u x r w t tb out pl os oa si wa tr) s = false := by simpa using hnew
    simp [E.answer_comes, past, ha, o1, offset_self, n1, E.ac1, E.window_comes, hnew, E.wc2, hw0, E.ac2, E.ac3]
theorem ans_news (h1 : 1 ≤ D.length) (h8 : D.length ≤ 16) (hw : 0 < w) {s : Seg} (ha : s.ans = plus f (1 + (D.length : Int))) (hw' : 0 < s.win) :
    E.answer_comes (eOP A B f g 1 (1 + (D.length : Int)) r w t tb D pl os oa si wa tr) s now = (eOP A B f g (1 + (D.length : Int)) (1 + (D.length : Int)) r s.win s.num (plus f (1 + (D.length : Int))) [] pl os oa si wa tr, true) := by
  have o1 : offset (plus f (1 + (D.length : Int))) (plus f 1) = (D.length : Int) := by rw [offset_pp (by omega)]; omega
  have hp : (0 : Int) < (D.length : Int) := by omega
  have hp2 : 0 < D.length := h1
  have hs : sl D (some (D.length : Int)) none = [] := by rw [sl_from, List.drop_length]
  have hw0 : ¬ w = 0 := by omega
  have hw1 : ¬ s.win = 0 := by omega
  simp [E.answer_comes, past, ha, o1, offset_self, hp, hp2, E.outstanding, hs, E.ac1, E.window_comes, E.wc2, E.hear_window, hw0, hw1, E.ac2, E.ac3]
/-- a bare answer comes, at its place -/
theorem at_ack {x0 x1 : Int} {w0 w2 t0 t2 tb0 tb2 z w' : Int} {o1 : List Int} (hset : settle pl = (pl, 0)) (hlast : pl.last = none)
    (ha : E.answer_comes (eOP A B f g u x r w0 t0 tb0 out pl os oa si wa tr) ⟨B, A, plus g r, z, 16, w', 0, []⟩ now = (eOP A B f g x0 x1 r w2 t2 tb2 o1 pl os oa si wa tr, true)) :
    E.arrive_segment (eOP A B f g u x r w0 t0 tb0 out pl os oa si wa tr) ⟨B, A, plus g r, z, 16, w', 0, []⟩ now = (eOP A B f g x0 x1 r w2 t2 tb2 o1 pl os oa si wa tr, true) := by
  have hov : is_over pl = false := by unfold is_over; rw [hlast]; rfl
  simp [E.arrive_segment, E.inS, E.at_others, E.fits, M.length, M.b2i, M.has, offset_self, ha, E.data_comes, E.dc2, E.dc3, hset, hov, plus_plus]
/-- their bytes come -/
theorem at_dat {x0 x1 : Int} {w0 w2 t0 t2 tb0 tb2 z w' : Int} {o1 : List Int} (h1 : 1 ≤ D'.length) (h8 : D'.length ≤ 16) (hfl : fl = 16 ∨ fl = 24)
    (ha : E.answer_comes (eOP A B f g u x 1 w0 t0 tb0 out Pile0 os oa si wa tr) ⟨B, A, plus g 1, z, fl, w', 0, D'⟩ now = (eOP A B f g x0 x1 1 w2 t2 tb2 o1 Pile0 os oa si wa tr, true)) :
    ∃ ea, (getK ea (D'.length : Int) = none ∧ ea.length ≤ 16) ∧ E.arrive_segment (eOP A B f g u x 1 w0 t0 tb0 out Pile0 os oa si wa tr) ⟨B, A, plus g 1, z, fl, w', 0, D'⟩ now = (eOP A B f g x0 x1 (1 + (D'.length : Int)) w2 t2 tb2 o1 (pileW D' ea) os true si wa tr, true) := by
  obtain ⟨ea, k1, k2⟩ := keep0 h8
  have hne : D' ≠ [] := fun z => by rw [z] at h1; simp at h1
  have hl : (D'.length : Int) ≠ 0 := by omega
  have hp : 0 < D'.length := h1
  have hr : room Pile0 = 64 := rfl
  refine ⟨ea, k2, ?_⟩
  rcases hfl with rfl | rfl <;>
  simp [E.arrive_segment, E.inS, E.at_others, E.fits, M.length, M.b2i, M.has, offset_self, ha, E.data_comes, E.dc2, E.dc3, k1, hne, hl, hp, hr, is_over, plus_plus]
theorem pileW_set (h : getK ea (D'.length : Int) = none) : settle (pileW D' ea) = (pileW D' ea, 0) := settle_none h
/-! what goes -/
def rSYN (A B f : Int) : List Int := put ⟨A, B, f, 0, 2, 64, 16, []⟩
def rSYA (A B f g : Int) : List Int := put ⟨A, B, f, plus g 1, 18, 64, 16, []⟩
def rACK (A B f g x r w : Int) : List Int := put ⟨A, B, plus f x, plus g r, 16, w, 0, []⟩
def rDAT (A B f g r fl w : Int) (D : List Int) : List Int := put ⟨A, B, plus f 1, plus g r, fl, w, 0, D⟩
theorem s14_ss0 (hf : 0 ≤ f ∧ f ≤ 4294967295) (ht : now - si < wa) : E.send (eSS A B f out si wa tr) now = (eSS A B f out si wa tr, []) := by
  have hn : ¬ plus f 1 = f := plus_ne hf
  have h1 : ¬ wa ≤ now - si := by omega
  simp [E.send, E.send2, E.inS, E.outstanding, offset_one hf, h1, E.answer_goes, hn]
theorem s14_ss1 (hf : 0 ≤ f ∧ f ≤ 4294967295) (ht : wa ≤ now - si) (h6 : tr ≠ 6) : E.send (eSS A B f out si wa tr) now = (eSS A B f out now (mn (2 * wa) 16000) (tr + 1), rSYN A B f) := by
  simp [E.send, E.send2, E.inS, E.outstanding, offset_one hf, ht, E.again, h6, E.syn_made, rSYN]
theorem s14_sc1 (hf : 0 ≤ f ∧ f ≤ 4294967295) (ht : wa ≤ now - si) (h6 : tr ≠ 6) : E.send (eSC A B f g out os oa si wa tr) now = (eSC A B f g out false oa now (mn (2 * wa) 16000) (tr + 1), rSYA A B f g) := by
  simp [E.send, E.send2, E.inS, E.outstanding, offset_one hf, ht, E.again, h6, E.syn_made, rSYA]
theorem s14_sc2 (hf : 0 ≤ f ∧ f ≤ 4294967295) (ht : now - si < wa) : E.send (eSC A B f g out true oa si wa tr) now = (eSC A B f g out false oa si wa tr, rSYA A B f g) := by
  have hn : ¬ plus f 1 = f := plus_ne hf
  have h1 : ¬ wa ≤ now - si := by omega
  simp [E.send, E.send2, E.inS, E.outstanding, offset_one hf, h1, E.syn_goes, E.syn2, hn, E.syn_made, rSYA]
theorem s14_sc3 (hf : 0 ≤ f ∧ f ≤ 4294967295) (ht : now - si < wa) : E.send (eSC A B f g out false true si wa tr) now = (eSC A B f g out false false si wa tr, rACK A B f g 1 1 64) := by
  have hn : ¬ plus f 1 = f := plus_ne hf
  have h1 : ¬ wa ≤ now - si := by omega
  simp [E.send, E.send2, E.inS, E.outstanding, offset_one hf, h1, E.answer_goes, hn, E.made, rACK, room, Pile0]
theorem s14_sc4 (hf : 0 ≤ f ∧ f ≤ 4294967295) (ht : now - si < wa) : E.send (eSC A B f g out false false si wa tr) now = (eSC A B f g out false false si wa tr, []) := by
  have hn : ¬ plus f 1 = f := plus_ne hf
  have h1 : ¬ wa ≤ now - si := by omega
  simp [E.send, E.send2, E.inS, E.outstanding, offset_one hf, h1, E.answer_goes, hn]
/-- an open end with nothing to send and nothing out -/
theorem s14_op0 : E.send (eOP A B f g u u r w t tb [] pl os false si wa tr) now = (eOP A B f g u u r w t tb [] pl os false si wa tr, []) := by
  simp [E.send, E.send2, E.inS, E.outstanding, offset_self, E.answer_goes, E.send3, E.send4, E.new_goes, E.probe, E.unsent, E.has_more]
theorem s14_op1 : E.send (eOP A B f g u u r w t tb [] pl os true si wa tr) now = (eOP A B f g u u r w t tb [] pl os false si wa tr, rACK A B f g u r (room pl)) := by
  simp [E.send, E.send2, E.inS, E.outstanding, offset_self, E.answer_goes, E.send3, E.send4, E.new_goes, E.probe, E.unsent, E.has_more, E.made, rACK]
/-- its bytes go -/
theorem s14_op2 (h1 : 1 ≤ D.length) (h8 : D.length ≤ 16) (hw : 16 ≤ w) : E.send (eOP A B f g 1 1 r w t tb D pl os oa si wa tr) now = (eOP A B f g 1 (1 + (D.length : Int)) r w t tb D pl os false now 1000 0, rDAT A B f g r 24 (room pl) D) := by
  have e1 : mx 0 (D.length : Int) = (D.length : Int) := by unfold mx; split <;> omega
  have e2 : mx 0 w = w := by unfold mx; split <;> omega
  have e3 : mn (mn (mn (16 : Int) 16) (D.length : Int)) w = (D.length : Int) := by unfold mn; split <;> (try split) <;> (try split) <;> omega
  have e4 : sl D (some 0) (some (D.length : Int)) = D := by
    rw [show (0 : Int) = ((0 : Nat) : Int) from rfl, sl_mid, List.drop_zero, Nat.sub_zero, List.take_of_length_le (Nat.le_refl _)]
  have hp : 0 < D.length := h1
  have q := send_data (e := eOP A B f g 1 1 r w t tb D pl os oa si wa tr) (now := now) ⟨rfl, rfl⟩ (by simp [E.outstanding, offset_self]) rfl (by simp [E.unsent, E.outstanding, offset_self, e1]; omega) (by simp [E.many_new, E.unsent, E.outstanding, offset_self, e1, e2, e3]; omega)
  rw [q]
  have em : E.many_new (eOP A B f g 1 1 r w t tb D pl os oa si wa tr) = (D.length : Int) := by simp [E.many_new, E.unsent, E.outstanding, offset_self, e1, e2, e3]
  rw [em]
  simp [E.data_goes, E.unsent, E.outstanding, offset_self, e1, E.gone, E.gone2, start, E.made, e4, rDAT, plus_plus]
/-- bytes are out -/
theorem out14 (h8 : D.length ≤ 16) : offset (plus f (1 + (D.length : Int))) (plus f 1) = (D.length : Int) := by rw [offset_pp (by omega)]; omega
theorem s14_op3 (h1 : 1 ≤ D.length) (h8 : D.length ≤ 16) (ht : wa ≤ now - si) (h6 : tr ≠ 6) : E.send (eOP A B f g 1 (1 + (D.length : Int)) r w t tb D pl os oa si wa tr) now = (eOP A B f g 1 (1 + (D.length : Int)) r w t tb D pl os oa now (mn (2 * wa) 16000) (tr + 1), rDAT A B f g r 16 (room pl) D) := by
  have o := out14 (f := f) h8
  have hp : 0 < D.length := h1
  have e0 : mx 0 ((D.length : Int) - (D.length : Int)) = 0 := by unfold mx; split <;> omega
  have e0' : mx 0 0 = 0 := rfl
  have e3 : mn (mn (D.length : Int) 16) 16 = (D.length : Int) := by unfold mn; split <;> (try split) <;> omega
  have e4 : sl D none (some (D.length : Int)) = D := by rw [sl_to, List.take_of_length_le (Nat.le_refl _)]
  rw [send_more ⟨rfl, rfl⟩ (by show 0 < offset _ _; rw [o]; omega) ht]
  simp [E.again, h6, E.unsent, E.outstanding, o, e0', hp, e3, e4, E.made, rDAT]
theorem s14_op4 (h1 : 1 ≤ D.length) (h8 : D.length ≤ 16) (ht : now - si < wa) : E.send (eOP A B f g 1 (1 + (D.length : Int)) r w t tb D pl os oa si wa tr) now = (if oa = true then (eOP A B f g 1 (1 + (D.length : Int)) r w t tb D pl os false si wa tr, rACK A B f g (1 + (D.length : Int)) r (room pl)) else (eOP A B f g 1 (1 + (D.length : Int)) r w t tb D pl os false si wa tr, [])) := by
  have o := out14 (f := f) h8
  have hp : 0 < D.length := h1
  have e0' : mx 0 0 = 0 := rfl
  have h0 : ¬ wa ≤ now - si := by omega
  rw [send_idle ⟨rfl, rfl⟩ (by simp [E.outstanding, o, h0]) (by simp [E.has_more, E.unsent, E.outstanding, o, e0', E.inS]), ans_live rfl]
  cases oa <;> simp [rACK]
end
end M

/-! Both call at once: the play, by phases alone. -/
namespace A14
inductive Ph where | ss | sc | op
deriving DecidableEq
structure Ab where
  ph : Ph
  dn : Nat
  rv : Bool
  fi : Bool
deriving DecidableEq
inductive Kd where | syn | sya | ack (y z : Bool) | dat (z : Bool)
deriving DecidableEq
structure Of where
  a : Ab
  os : Bool
  oa : Bool
deriving DecidableEq
/-- a segment comes -/
def dlv (k : Nat) (hp : Bool) (s : Of) : Kd → Option Of
  | .syn => match s.a.ph with
    | .ss => some ⟨⟨.sc, 0, false, s.a.fi || decide (21 ≤ k)⟩, true, false⟩
    | .sc => some { s with os := true }
    | .op => some { s with oa := true }
  | .sya => match s.a.ph with
    | .ss => some ⟨⟨.op, 0, false, true⟩, false, true⟩
    | .sc => some { s with oa := true }
    | .op => some { s with oa := true }
  | .ack y z => match s.a.ph with
    | .ss => none
    | .sc => if (!y && !z) = true then some { s with a := ⟨.op, 0, false, true⟩ } else none
    | .op => if decide (y = s.a.rv) = true then (if z = true then (if decide (s.a.dn = 0) = true then none else some { s with a := { s.a with dn := 2 } }) else (if decide (s.a.dn = 2) = true then none else some s)) else none
  | .dat z => if hp = true then (match s.a.ph with
    | .ss => none
    | .sc => if z = true then none else some { s with a := ⟨.op, 0, true, true⟩, oa := true }
    | .op => if s.a.rv = true then some { s with oa := true } else
        if z = true then (if decide (s.a.dn = 0) = true then none else some { s with a := { s.a with dn := 2, rv := true }, oa := true }) else (if decide (s.a.dn = 2) = true then none else some { s with a := { s.a with rv := true }, oa := true })) else none
def dlvs (k : Nat) (hp : Bool) : List Kd → Of → Option Of
  | [], s => some s
  | c :: l, s => match dlv k hp s c with
    | none => none
    | some s => dlvs k hp l s
def ak (b : Bool) (y z : Bool) : List Kd := if b = true then [.ack y z] else []
/-- what may go -/
def snd (k : Nat) (hd : Bool) (s : Of) : List (Ab × List Kd) := match s.a.ph with
  | .ss => ({ s.a with fi := s.a.fi || decide (13 ≤ k) }, [Kd.syn]) :: (if (!s.a.fi && decide (20 ≤ k)) = true then [] else [(s.a, [])])
  | .sc => ({ s.a with fi := s.a.fi || decide (13 ≤ k) }, Kd.sya :: ak s.oa false false) :: (if (!s.a.fi && decide (21 ≤ k)) = true then [] else [(s.a, (if s.os = true then [Kd.sya] else []) ++ ak s.oa false false)])
  | .op => if decide (s.a.dn = 0) = true then (if hd = true then [({ s.a with dn := 1 }, [Kd.dat s.a.rv])] else [(s.a, ak s.oa false s.a.rv)]) else
      if decide (s.a.dn = 1) = true then [(s.a, Kd.dat s.a.rv :: ak s.oa true s.a.rv), (s.a, ak s.oa true s.a.rv)] else [(s.a, ak s.oa true s.a.rv)]
def turn (k : Nat) (hd hp : Bool) (del : Bool) (a : Ab) (road : List Kd) : Option (List (Ab × List Kd)) := match (if del = true then dlvs k hp road ⟨a, false, false⟩ else some ⟨a, false, false⟩) with
  | none => none
  | some s => some (snd k hd s)
structure Pl where
  a0 : Ab
  a1 : Ab
  r0 : List Kd
  r1 : List Kd
deriving DecidableEq
def half (k : Nat) (h0 h1 : Bool) (del to : Bool) (p : Pl) : Option (List Pl) :=
  if to = true then (turn k h1 h0 del p.a1 p.r1).map fun l => l.map fun x => { p with a1 := x.1, r1 := [], r0 := p.r0 ++ x.2 }
  else (turn k h0 h1 del p.a0 p.r0).map fun l => l.map fun x => { p with a0 := x.1, r0 := [], r1 := p.r1 ++ x.2 }
/-- all of a list, or none -/
def allM {α β : Type} (f : α → Option (List β)) : List α → Option (List β)
  | [] => some []
  | x :: l => match f x, allM f l with
    | some a, some b => some (a ++ b)
    | _, _ => none
def round (k : Nat) (h0 h1 : Bool) (del o : Bool) (p : Pl) : Option (List Pl) := match half k h0 h1 del o p with
  | none => none
  | some l => allM (half k h0 h1 del (!o)) l
def dd (l : List Pl) : List Pl := l.foldl (fun acc x => if acc.contains x then acc else x :: acc) []
def ways (k : Nat) (h0 h1 lossy : Bool) (p : Pl) : Option (List Pl) := allM (fun x : Bool × Bool => round k h0 h1 x.1 x.2 p) (if lossy = true then [(true, true), (true, false), (false, true), (false, false)] else [(true, true), (true, false)])
def step (k : Nat) (h0 h1 lossy : Bool) (l : List Pl) : Option (List Pl) := (allM (ways k h0 h1 lossy) l).map dd
def steps (h0 h1 lossy : Bool) : Nat → Nat → List Pl → Option (List Pl)
  | 0, _, l => some l
  | n + 1, k, l => match step k h0 h1 lossy l with
    | none => none
    | some l => steps h0 h1 lossy n (k + 1) l
def ss0 : Ab := ⟨.ss, 0, false, false⟩
def p0 : Pl := ⟨ss0, ss0, [.syn], [.syn]⟩
end A14

/-! Both call at once: what the ends do is what the phases do. -/
namespace M
open A14
structure Sd where
  A : Int
  B : Int
  f : Int
  g : Int
  D : List Int
  D' : List Int
def Sd.sw (S : Sd) : Sd := ⟨S.B, S.A, S.g, S.f, S.D', S.D⟩
structure SdOk (S : Sd) : Prop where
  A : 0 ≤ S.A ∧ S.A ≤ 65535
  B : 0 ≤ S.B ∧ S.B ≤ 65535
  f : 0 ≤ S.f ∧ S.f ≤ 4294967295
  g : 0 ≤ S.g ∧ S.g ≤ 4294967295
  D : S.D.length ≤ 16
  D' : S.D'.length ≤ 16
  by1 : By S.D
  by2 : By S.D'
theorem SdOk.sw {S : Sd} (h : SdOk S) : SdOk S.sw := ⟨h.B, h.A, h.g, h.f, h.D', h.D, h.by2, h.by1⟩
def Tm (now si wa tr : Int) : Prop := 0 ≤ si ∧ si ≤ now ∧ ((tr = 0 ∧ wa = 1000) ∨ (tr = 1 ∧ wa = 2000 ∧ 1000 ≤ si) ∨ (tr = 2 ∧ wa = 4000 ∧ 3000 ≤ si) ∨ (tr = 3 ∧ wa = 8000 ∧ 7000 ≤ si) ∨ (tr = 4 ∧ wa = 16000 ∧ 15000 ≤ si) ∨ (tr = 5 ∧ wa = 16000 ∧ 31000 ≤ si))
section
variable {now now' si wa tr : Int}
theorem Tm.fire (h : Tm now si wa tr) (hn : now ≤ 31000) (hd : wa ≤ now - si) : tr ≠ 6 ∧ Tm now now (mn (2 * wa) 16000) (tr + 1) := by
  obtain ⟨h0, h1, h2⟩ := h
  rcases h2 with ⟨rfl, rfl⟩ | ⟨rfl, rfl, h3⟩ | ⟨rfl, rfl, h3⟩ | ⟨rfl, rfl, h3⟩ | ⟨rfl, rfl, h3⟩ | ⟨rfl, rfl, h3⟩
  · exact ⟨by decide, by omega, by omega, .inr (.inl ⟨rfl, rfl, by omega⟩)⟩
  · exact ⟨by decide, by omega, by omega, .inr (.inr (.inl ⟨rfl, rfl, by omega⟩))⟩
  · exact ⟨by decide, by omega, by omega, .inr (.inr (.inr (.inl ⟨rfl, rfl, by omega⟩)))⟩
  · exact ⟨by decide, by omega, by omega, .inr (.inr (.inr (.inr (.inl ⟨rfl, rfl, by omega⟩))))⟩
  · exact ⟨by decide, by omega, by omega, .inr (.inr (.inr (.inr (.inr ⟨rfl, rfl, by omega⟩))))⟩
  · omega
theorem Tm.start (h : 0 ≤ now) : Tm now now 1000 0 := ⟨h, Int.le_refl _, .inl ⟨rfl, rfl⟩⟩
theorem Tm.mono (h : Tm now si wa tr) (hn : now ≤ now') : Tm now' si wa tr := ⟨h.1, Int.le_trans h.2.1 hn, h.2.2⟩
theorem Tm.early (h : Tm now si wa tr) (hn : now ≤ 12000) : si + wa ≤ 20000 := by
  obtain ⟨h0, h1, h2⟩ := h
  omega
end
/-- an end, by its phase -/
inductive RelE (S : Sd) (now : Int) : Of → EndS → Prop
  | ss {fi : Bool} {si wa tr : Int} (t : Tm now si wa tr) (b : fi = false → si + wa ≤ 20000) : RelE S now ⟨⟨.ss, 0, false, fi⟩, false, false⟩ (eSS S.A S.B S.f S.D si wa tr)
  | sc {fi os oa : Bool} {si wa tr : Int} (t : Tm now si wa tr) (b : fi = false → si + wa ≤ 21000) : RelE S now ⟨⟨.sc, 0, false, fi⟩, os, oa⟩ (eSC S.A S.B S.f S.g S.D os oa si wa tr)
  | op {dn : Nat} {rv fi os os' oa : Bool} {u x r w t tb si wa tr : Int} {out : List Int} {pl : PileS} (hw : 48 ≤ w ∧ w ≤ 64) (tm : Tm now si wa tr)
      (hd : (dn = 0 ∧ u = 1 ∧ x = 1 ∧ out = S.D) ∨ (dn = 1 ∧ u = 1 ∧ x = 1 + (S.D.length : Int) ∧ out = S.D ∧ 1 ≤ S.D.length) ∨ (dn = 2 ∧ u = 1 + (S.D.length : Int) ∧ x = 1 + (S.D.length : Int) ∧ out = [] ∧ 1 ≤ S.D.length))
      (hr : (rv = false ∧ r = 1 ∧ pl = Pile0) ∨ (rv = true ∧ r = 1 + (S.D'.length : Int) ∧ 1 ≤ S.D'.length ∧ ∃ ea, (getK ea (S.D'.length : Int) = none ∧ ea.length ≤ 16) ∧ pl = pileW S.D' ea)) : RelE S now ⟨⟨.op, dn, rv, fi⟩, os, oa⟩ (eOP S.A S.B S.f S.g u x r w t tb out pl os' oa si wa tr)
/-- a row, by its kind; S: the one who sends -/
inductive RowOf (S : Sd) : Kd → List Int → Prop
  | syn : RowOf S .syn (rSYN S.A S.B S.f)
  | sya : RowOf S .sya (rSYA S.A S.B S.f S.g)
  | ack {y z : Bool} (hz : z = true → 1 ≤ S.D'.length) (hy : y = true → 1 ≤ S.D.length) : RowOf S (.ack y z) (rACK S.A S.B S.f S.g (if y = true then 1 + (S.D.length : Int) else 1) (if z = true then 1 + (S.D'.length : Int) else 1) (if z = true then 64 - (S.D'.length : Int) else 64))
  | dat {z : Bool} {fl : Int} (hfl : fl = 16 ∨ fl = 24) (hz : z = true → 1 ≤ S.D'.length) (h1 : 1 ≤ S.D.length) : RowOf S (.dat z) (rDAT S.A S.B S.f S.g (if z = true then 1 + (S.D'.length : Int) else 1) fl (if z = true then 64 - (S.D'.length : Int) else 64) S.D)
section
variable {S : Sd} {now : Int} {k : Nat} {s s' : Of} {e : EndS} {kd : Kd} {row : List Int}
theorem RelE.mono {now' : Int} (h : RelE S now s e) (hn : now ≤ now') : RelE S now' s e := by
  cases h with
  | ss t b => exact .ss (t.mono hn) b
  | sc t b => exact .sc (t.mono hn) b
  | op hw tm hd hr => exact .op hw (tm.mono hn) hd hr
theorem sim_dlv (ok : SdOk S) (h0 : 0 ≤ now) (hk : now ≤ 1000 * (k : Int)) {hp : Bool} (hhp : hp = decide (1 ≤ S.D'.length)) (h : RelE S now s e) (hr : RowOf S.sw kd row) (hd : dlv k hp s kd = some s') : RelE S now s' (E.arrive e row now).1 := by
  have hA := ok.A; have hB := ok.B; have hf := ok.f; have hg := ok.g; have hD := ok.D; have hD' := ok.D'
  have hnow : 0 ≤ now := h0
  have okSYN : Ok ⟨S.B, S.A, S.g, 0, 2, 64, 16, []⟩ := ok_mk hB hA hg (by decide) (by decide) (by decide) (.inr ⟨by decide, by decide, by decide⟩) (Nat.zero_le _) by_nil
  have okSYA : Ok ⟨S.B, S.A, S.g, plus S.f 1, 18, 64, 16, []⟩ := ok_mk hB hA hg (plus_rg _ _) (by decide) (by decide) (.inr ⟨by decide, by decide, by decide⟩) (Nat.zero_le _) by_nil
  have okACK : ∀ {y z w : Int}, 0 ≤ w ∧ w ≤ 65535 → Ok ⟨S.B, S.A, plus S.g y, plus S.f z, 16, w, 0, []⟩ := fun hw => ok_mk hB hA (plus_rg _ _) (plus_rg _ _) (by decide) hw (.inl rfl) (Nat.zero_le _) by_nil
  have okDAT : ∀ {z w fl : Int}, 0 ≤ w ∧ w ≤ 65535 → (fl = 16 ∨ fl = 24) → Ok ⟨S.B, S.A, plus S.g 1, plus S.f z, fl, w, 0, S.D'⟩ := fun hw hfl => ok_mk hB hA (plus_rg _ _) (plus_rg _ _) (by omega) hw (.inl rfl) (by omega) ok.by2
  cases hr with
  | syn =>
    show RelE S now s' (E.arrive e (put ⟨S.B, S.A, S.g, 0, 2, 64, 16, []⟩) now).1
    rw [arrive_put okSYN]
    cases h with
    | @ss fi si wa tr t b =>
      rw [a14_1]
      obtain rfl := Option.some.inj hd
      refine .sc (Tm.start hnow) fun q => ?_
      have q2 := (Bool.or_eq_false_iff.mp q).2
      have := of_decide_eq_false q2
      omega
    | sc t b =>
      rw [a14_3 hg]
      obtain rfl := Option.some.inj hd
      exact .sc t b
    | @op dn rv fi os os' oa u x r w tt tb si wa tr out pl hw tm hd2 hr2 =>
      rw [a14_7 hg (by rcases hr2 with ⟨_, q, _⟩ | ⟨_, q, _⟩ <;> omega)]
      obtain rfl := Option.some.inj hd
      exact .op hw tm hd2 hr2
  | sya =>
    show RelE S now s' (E.arrive e (put ⟨S.B, S.A, S.g, plus S.f 1, 18, 64, 16, []⟩) now).1
    rw [arrive_put okSYA]
    cases h with
    | ss t b =>
      rw [a14_2 hf]
      obtain rfl := Option.some.inj hd
      exact .op (by omega) t (.inl ⟨rfl, rfl, rfl, rfl⟩) (.inl ⟨rfl, rfl, rfl⟩)
    | sc t b =>
      rw [a14_4 hg]
      obtain rfl := Option.some.inj hd
      exact .sc t b
    | op hw tm hd2 hr2 =>
      rw [a14_8 hg (by rcases hr2 with ⟨_, q, _⟩ | ⟨_, q, _⟩ <;> omega)]
      obtain rfl := Option.some.inj hd
      exact .op hw tm hd2 hr2
  | @ack y z hz hy =>
    have hz : z = true → 1 ≤ S.D.length := hz
    have hy : y = true → 1 ≤ S.D'.length := hy
    show RelE S now s' (E.arrive e (put ⟨S.B, S.A, plus S.g (if y = true then 1 + (S.D'.length : Int) else 1), plus S.f (if z = true then 1 + (S.D.length : Int) else 1), 16, (if z = true then 64 - (S.D.length : Int) else 64), 0, []⟩) now).1
    have hw' : 48 ≤ (if z = true then 64 - (S.D.length : Int) else 64) ∧ (if z = true then 64 - (S.D.length : Int) else 64) ≤ 64 := by split <;> omega
    rw [arrive_put (okACK (by omega))]
    cases h with
    | ss t b => cases hd
    | sc t b =>
      cases y <;> cases z <;> first | (exfalso; simp [dlv] at hd; done) | skip
      rw [show (if false = true then 1 + (S.D'.length : Int) else 1) = 1 from rfl, show (if false = true then 1 + (S.D.length : Int) else 1) = 1 from rfl, a14_5 hf]
      obtain rfl := Option.some.inj hd
      exact .op hw' t (.inl ⟨rfl, rfl, rfl, rfl⟩) (.inl ⟨rfl, rfl, rfl⟩)
    | @op dn rv fi os os' oa u x r w tt tb si wa tr out pl hw tm hd2 hr2 =>
      have hyr : y = rv := by
        by_cases q : y = rv
        · exact q
        · exfalso; simp [dlv, q] at hd
      have hre : (if y = true then 1 + (S.D'.length : Int) else 1) = r := by
        rw [hyr]
        rcases hr2 with ⟨q1, q2, _⟩ | ⟨q1, q2, _⟩
        · rw [q1, q2]; rfl
        · rw [q1, q2]; rfl
      have hset : settle pl = (pl, 0) ∧ pl.last = none := by
        rcases hr2 with ⟨_, _, q⟩ | ⟨_, _, _, ea, q1, q⟩
        · rw [q]; exact ⟨settle_none rfl, rfl⟩
        · rw [q]; exact ⟨pileW_set q1.1, rfl⟩
      rw [hre]
      subst hyr
      cases z with
      | false =>
        rw [show (if false = true then 1 + (S.D.length : Int) else 1) = 1 from rfl, show (if false = true then 64 - (S.D.length : Int) else 64) = 64 from rfl]
        have hdn : dn ≠ 2 := fun q => by simp [dlv, q] at hd
        have hu : u = 1 ∧ x ≤ u + 16 ∧ u ≤ x := by rcases hd2 with ⟨_, q1, q2, _⟩ | ⟨_, q1, q2, _⟩ | ⟨q, _⟩ <;> omega
        obtain ⟨w2, t2, tb2, hw2, ha⟩ := ans_same (A := S.A) (B := S.B) (f := S.f) (g := S.g) (u := u) (x := x) (r := r) (w := w) (t := tt) (tb := tb) (out := out) (pl := pl) (os := os') (oa := oa) (si := si) (wa := wa) (tr := tr) (now := now) ⟨hu.2.2, hu.2.1⟩ (by omega) (s := ⟨S.B, S.A, plus S.g r, plus S.f 1, 16, 64, 0, []⟩) (by rw [hu.1]) (by show (0 : Int) < 64; decide)
        rw [at_ack hset.1 hset.2 ha]
        have hs' : s' = ⟨⟨.op, dn, y, fi⟩, os, oa⟩ := by
          have := Option.some.inj (show some (⟨⟨.op, dn, y, fi⟩, os, oa⟩ : Of) = some s' from by rw [← hd]; simp [dlv, hdn])
          exact this.symm
        rw [hs']
        exact .op (by rcases hw2 with q | q <;> rw [q]; exact hw; show (48 : Int) ≤ 64 ∧ (64 : Int) ≤ 64; decide) tm hd2 hr2
      | true =>
        rw [show (if true = true then 1 + (S.D.length : Int) else 1) = 1 + (S.D.length : Int) from rfl, show (if true = true then 64 - (S.D.length : Int) else 64) = 64 - (S.D.length : Int) from rfl]
        have hdn : dn ≠ 0 := fun q => by simp [dlv, q] at hd
        have hs' : s' = ⟨⟨.op, 2, y, fi⟩, os, oa⟩ := by
          have := Option.some.inj (show some (⟨⟨.op, 2, y, fi⟩, os, oa⟩ : Of) = some s' from by rw [← hd]; simp [dlv, hdn])
          exact this.symm
        rw [hs']
        rcases hd2 with ⟨q, _⟩ | ⟨q, rfl, rfl, rfl, h1⟩ | ⟨q, rfl, rfl, rfl, h1⟩
        · exact absurd q hdn
        · have ha := ans_news (A := S.A) (B := S.B) (f := S.f) (g := S.g) (r := r) (w := w) (t := tt) (tb := tb) (D := S.D) (pl := pl) (os := os') (oa := oa) (si := si) (wa := wa) (tr := tr) (now := now) h1 hD (by omega) (s := ⟨S.B, S.A, plus S.g r, plus S.f (1 + (S.D.length : Int)), 16, 64 - (S.D.length : Int), 0, []⟩) rfl (by show 0 < 64 - (S.D.length : Int); omega)
          rw [at_ack hset.1 hset.2 ha]
          exact .op (by show 48 ≤ 64 - (S.D.length : Int) ∧ 64 - (S.D.length : Int) ≤ 64; omega) tm (.inr (.inr ⟨rfl, rfl, rfl, rfl, h1⟩)) hr2
        · obtain ⟨w2, t2, tb2, hw2, ha⟩ := ans_same (A := S.A) (B := S.B) (f := S.f) (g := S.g) (u := 1 + (S.D.length : Int)) (x := 1 + (S.D.length : Int)) (r := r) (w := w) (t := tt) (tb := tb) (out := []) (pl := pl) (os := os') (oa := oa) (si := si) (wa := wa) (tr := tr) (now := now) (by omega) (by omega) (s := ⟨S.B, S.A, plus S.g r, plus S.f (1 + (S.D.length : Int)), 16, 64 - (S.D.length : Int), 0, []⟩) rfl (by show 0 < 64 - (S.D.length : Int); omega)
          rw [at_ack hset.1 hset.2 ha]
          refine .op ?_ tm (.inr (.inr ⟨rfl, rfl, rfl, rfl, h1⟩)) hr2
          rcases hw2 with q | q
          · rw [q]; exact hw
          · rw [q]; show 48 ≤ 64 - (S.D.length : Int) ∧ 64 - (S.D.length : Int) ≤ 64; omega
  | @dat z fl hfl hz h1 =>
    have hz : z = true → 1 ≤ S.D.length := hz
    have h1 : 1 ≤ S.D'.length := h1
    have hpt : hp = true := by rw [hhp]; exact decide_eq_true h1
    show RelE S now s' (E.arrive e (put ⟨S.B, S.A, plus S.g 1, plus S.f (if z = true then 1 + (S.D.length : Int) else 1), fl, (if z = true then 64 - (S.D.length : Int) else 64), 0, S.D'⟩) now).1
    have hw' : 48 ≤ (if z = true then 64 - (S.D.length : Int) else 64) ∧ (if z = true then 64 - (S.D.length : Int) else 64) ≤ 64 := by split <;> omega
    rw [arrive_put (okDAT (by omega) hfl)]
    cases h with
    | ss t b => exfalso; simp [dlv, hpt] at hd
    | @sc fi os oa si wa tr t b =>
      cases z with
      | true => exfalso; simp [dlv, hpt] at hd
      | false =>
        obtain ⟨ea, g1, g2⟩ := a14_6 (A := S.A) (B := S.B) (f := S.f) (g := S.g) (w := 64) (D' := S.D') (now := now) hf h1 hD' hfl
        rw [show (if false = true then 1 + (S.D.length : Int) else 1) = 1 from rfl, show (if false = true then 64 - (S.D.length : Int) else 64) = 64 from rfl, g2]
        have hs' : some (⟨⟨.op, 0, true, true⟩, os, true⟩ : Of) = some s' := by rw [← hd]; simp [dlv, hpt]
        obtain rfl := Option.some.inj hs'
        exact .op (by omega) t (.inl ⟨rfl, rfl, rfl, rfl⟩) (.inr ⟨rfl, rfl, h1, ea, g1, rfl⟩)
    | @op dn rv fi os os' oa u x r w tt tb si wa tr out pl hw tm hd2 hr2 =>
      rcases hr2 with ⟨rfl, rfl, rfl⟩ | ⟨rfl, rfl, hm, ea, hea, rfl⟩
      · cases z with
        | false =>
          rw [show (if false = true then 1 + (S.D.length : Int) else 1) = 1 from rfl, show (if false = true then 64 - (S.D.length : Int) else 64) = 64 from rfl]
          have hdn : dn ≠ 2 := fun q => by simp [dlv, hpt, q] at hd
          have hu : u = 1 ∧ x ≤ u + 16 ∧ u ≤ x := by rcases hd2 with ⟨_, q1, q2, _⟩ | ⟨_, q1, q2, _⟩ | ⟨q, _⟩ <;> omega
          obtain ⟨w2, t2, tb2, hw2, ha⟩ := ans_same (A := S.A) (B := S.B) (f := S.f) (g := S.g) (u := u) (x := x) (r := 1) (w := w) (t := tt) (tb := tb) (out := out) (pl := Pile0) (os := os') (oa := oa) (si := si) (wa := wa) (tr := tr) (now := now) ⟨hu.2.2, hu.2.1⟩ (by omega) (s := ⟨S.B, S.A, plus S.g 1, plus S.f 1, fl, 64, 0, S.D'⟩) (by rw [hu.1]) (by show (0 : Int) < 64; decide)
          obtain ⟨ea, g1, g2⟩ := at_dat h1 hD' hfl ha
          rw [g2]
          have hs' : some (⟨⟨.op, dn, true, fi⟩, os, true⟩ : Of) = some s' := by rw [← hd]; simp [dlv, hpt, hdn]
          obtain rfl := Option.some.inj hs'
          exact .op (by rcases hw2 with q | q <;> rw [q]; exact hw; show (48 : Int) ≤ 64 ∧ (64 : Int) ≤ 64; decide) tm hd2 (.inr ⟨rfl, rfl, h1, ea, g1, rfl⟩)
        | true =>
          rw [show (if true = true then 1 + (S.D.length : Int) else 1) = 1 + (S.D.length : Int) from rfl, show (if true = true then 64 - (S.D.length : Int) else 64) = 64 - (S.D.length : Int) from rfl]
          have hdn : dn ≠ 0 := fun q => by simp [dlv, hpt, q] at hd
          have hs' : some (⟨⟨.op, 2, true, fi⟩, os, true⟩ : Of) = some s' := by rw [← hd]; simp [dlv, hpt, hdn]
          obtain rfl := Option.some.inj hs'
          rcases hd2 with ⟨q, _⟩ | ⟨q, rfl, rfl, rfl, h1'⟩ | ⟨q, rfl, rfl, rfl, h1'⟩
          · exact absurd q hdn
          · have ha := ans_news (A := S.A) (B := S.B) (f := S.f) (g := S.g) (r := 1) (w := w) (t := tt) (tb := tb) (D := S.D) (pl := Pile0) (os := os') (oa := oa) (si := si) (wa := wa) (tr := tr) (now := now) h1' hD (by omega) (s := ⟨S.B, S.A, plus S.g 1, plus S.f (1 + (S.D.length : Int)), fl, 64 - (S.D.length : Int), 0, S.D'⟩) rfl (by show 0 < 64 - (S.D.length : Int); omega)
            obtain ⟨ea, g1, g2⟩ := at_dat h1 hD' hfl ha
            rw [g2]
            exact .op (by show 48 ≤ 64 - (S.D.length : Int) ∧ 64 - (S.D.length : Int) ≤ 64; omega) tm (.inr (.inr ⟨rfl, rfl, rfl, rfl, h1'⟩)) (.inr ⟨rfl, rfl, h1, ea, g1, rfl⟩)
          · obtain ⟨w2, t2, tb2, hw2, ha⟩ := ans_same (A := S.A) (B := S.B) (f := S.f) (g := S.g) (u := 1 + (S.D.length : Int)) (x := 1 + (S.D.length : Int)) (r := 1) (w := w) (t := tt) (tb := tb) (out := []) (pl := Pile0) (os := os') (oa := oa) (si := si) (wa := wa) (tr := tr) (now := now) (by omega) (by omega) (s := ⟨S.B, S.A, plus S.g 1, plus S.f (1 + (S.D.length : Int)), fl, 64 - (S.D.length : Int), 0, S.D'⟩) rfl (by show 0 < 64 - (S.D.length : Int); omega)
            obtain ⟨ea, g1, g2⟩ := at_dat h1 hD' hfl ha
            rw [g2]
            refine .op ?_ tm (.inr (.inr ⟨rfl, rfl, rfl, rfl, h1'⟩)) (.inr ⟨rfl, rfl, h1, ea, g1, rfl⟩)
            rcases hw2 with q | q
            · rw [q]; exact hw
            · rw [q]; show 48 ≤ 64 - (S.D.length : Int) ∧ 64 - (S.D.length : Int) ≤ 64; omega
      · rw [a14_11 h1 hD' hfl]
        have hs' : some (⟨⟨.op, dn, true, fi⟩, os, true⟩ : Of) = some s' := by rw [← hd]; simp [dlv, hpt]
        obtain rfl := Option.some.inj hs'
        exact .op hw tm hd2 (.inr ⟨rfl, rfl, hm, ea, hea, rfl⟩)
end
end M

set_option maxHeartbeats 200000
namespace M
open A14
/-- all that goes at a time -/
inductive Run (now : Int) : EndS → List (List Int) → EndS → Prop
  | nil {e e' : EndS} (h : E.send e now = (e', [])) : Run now e [] e'
  | cons {e e1 e' : EndS} {row : List Int} {rows : List (List Int)} (h : E.send e now = (e1, row)) (hne : row ≠ []) (r : Run now e1 rows e') : Run now e (row :: rows) e'
inductive RowsOf (S : Sd) : List Kd → List (List Int) → Prop
  | nil : RowsOf S [] []
  | cons {c : Kd} {cs : List Kd} {r : List Int} {rs : List (List Int)} (h : RowOf S c r) (t : RowsOf S cs rs) : RowsOf S (c :: cs) (r :: rs)
theorem RowsOf.app {S : Sd} : ∀ {a b : List Kd} {x y : List (List Int)}, RowsOf S a x → RowsOf S b y → RowsOf S (a ++ b) (x ++ y)
  | _, _, _, _, .nil, h => h
  | _, _, _, _, .cons h t, k => .cons h (t.app k)
section
variable {S : Sd} {now : Int} {k : Nat} {s s' : Of} {e : EndS} {hd : Bool}
theorem mn_pos {wa : Int} (h : 0 < wa) : 0 < mn (2 * wa) 16000 := by unfold mn; split <;> omega
theorem Tm.pos {si wa tr : Int} (h : Tm now si wa tr) : 0 < wa := by obtain ⟨_, _, h⟩ := h; omega
theorem sim_snd (ok : SdOk S) (hk : now = 1000 * (k : Int)) (hn : now ≤ 31000) (hhd : hd = decide (1 ≤ S.D.length)) (h : RelE S now s e) : ∃ x, x ∈ snd k hd s ∧ ∃ rows e', Run now e rows e' ∧ RowsOf S x.2 rows ∧ RelE S now ⟨x.1, false, false⟩ e' := by
  have hf := ok.f; have hg := ok.g; have hD := ok.D; have hD' := ok.D'
  have fiq : ∀ {fi : Bool}, (fi || decide (13 ≤ k)) = false → fi = false ∧ now ≤ 12000 := fun {fi} q => by
    obtain ⟨q1, q2⟩ := Bool.or_eq_false_iff.mp q
    exact ⟨q1, by have := of_decide_eq_false q2; omega⟩
  have ack0 : RowOf S (.ack false false) (rACK S.A S.B S.f S.g 1 1 64) := .ack (y := false) (z := false) (fun z => nomatch z) (fun z => nomatch z)
  cases h with
  | @ss fi si wa tr t b =>
    by_cases due : wa ≤ now - si
    · obtain ⟨f1, f2⟩ := t.fire hn due
      refine ⟨(⟨.ss, 0, false, fi || decide (13 ≤ k)⟩, [.syn]), List.mem_cons_self .., _, _, .cons (s14_ss1 hf due f1) (put_ne _) (.nil (s14_ss0 hf (by have := mn_pos t.pos; omega))), .cons .syn .nil, .ss f2 fun q => ?_⟩
      exact f2.early (fiq q).2
    · refine ⟨(⟨.ss, 0, false, fi⟩, []), ?_, _, _, .nil (s14_ss0 hf (by omega)), .nil, .ss t b⟩
      show _ ∈ (_ :: (if (!fi && decide (20 ≤ k)) = true then [] else [((⟨.ss, 0, false, fi⟩ : Ab), ([] : List Kd))]))
      rw [if_neg]
      · exact List.mem_cons_of_mem _ (List.mem_cons_self ..)
      · intro q
        obtain ⟨q1, q2⟩ := Bool.and_eq_true_iff.mp q
        have := b (by simpa using q1)
        have := of_decide_eq_true q2
        omega
  | @sc fi os oa si wa tr t b =>
    have tl : ∀ {si wa tr}, now - si < wa → ∀ oa : Bool, ∃ rows, Run now (eSC S.A S.B S.f S.g S.D false oa si wa tr) rows (eSC S.A S.B S.f S.g S.D false false si wa tr) ∧ RowsOf S (ak oa false false) rows := fun {si wa tr} hlt oa => by
      cases oa with
      | true => exact ⟨_, .cons (s14_sc3 hf hlt) (put_ne _) (.nil (s14_sc4 hf hlt)), .cons ack0 .nil⟩
      | false => exact ⟨_, .nil (s14_sc4 hf hlt), .nil⟩
    by_cases due : wa ≤ now - si
    · obtain ⟨f1, f2⟩ := t.fire hn due
      obtain ⟨rows, g1, g2⟩ := tl (si := now) (wa := mn (2 * wa) 16000) (tr := tr + 1) (by have := mn_pos t.pos; omega) oa
      refine ⟨(⟨.sc, 0, false, fi || decide (13 ≤ k)⟩, .sya :: ak oa false false), List.mem_cons_self .., _, _, .cons (s14_sc1 hf due f1) (put_ne _) g1, .cons .sya g2, .sc f2 fun q => ?_⟩
      have := f2.early (fiq q).2
      omega
    · obtain ⟨rows, g1, g2⟩ := tl (si := si) (wa := wa) (tr := tr) (by omega) oa
      have mem : ((⟨.sc, 0, false, fi⟩ : Ab), (if os = true then [Kd.sya] else []) ++ ak oa false false) ∈ snd k hd ⟨⟨.sc, 0, false, fi⟩, os, oa⟩ := by
        show _ ∈ (_ :: (if (!fi && decide (21 ≤ k)) = true then [] else [((⟨.sc, 0, false, fi⟩ : Ab), (if os = true then [Kd.sya] else []) ++ ak oa false false)]))
        rw [if_neg]
        · exact List.mem_cons_of_mem _ (List.mem_cons_self ..)
        · intro q
          obtain ⟨q1, q2⟩ := Bool.and_eq_true_iff.mp q
          have := b (by simpa using q1)
          have := of_decide_eq_true q2
          omega
      cases os with
      | true => exact ⟨_, mem, _, _, .cons (s14_sc2 hf (by omega)) (put_ne _) g1, .cons .sya g2, .sc t b⟩
      | false => exact ⟨_, mem, _, _, g1, g2, .sc t b⟩
  | @op dn rv fi os os' oa u x r w tt tb si wa tr out pl hw tm hd2 hr2 =>
    have hroom : room pl = (if rv = true then 64 - (S.D'.length : Int) else 64) := by
      rcases hr2 with ⟨q1, _, q⟩ | ⟨q1, _, _, ea, _, q⟩ <;> rw [q1, q] <;> rfl
    have hrr : r = (if rv = true then 1 + (S.D'.length : Int) else 1) := by
      rcases hr2 with ⟨q1, q, _⟩ | ⟨q1, q, _⟩ <;> rw [q1, q] <;> rfl
    have hrv : rv = true → 1 ≤ S.D'.length := fun q => by
      rcases hr2 with ⟨q1, _⟩ | ⟨_, _, q1, _⟩
      · rw [q] at q1; cases q1
      · exact q1
    have akR : ∀ {y : Bool} {xx : Int}, xx = (if y = true then 1 + (S.D.length : Int) else 1) → (y = true → 1 ≤ S.D.length) → RowOf S (.ack y rv) (rACK S.A S.B S.f S.g xx r (room pl)) := fun {y xx} q1 q2 => by
      rw [q1, hrr, hroom]
      exact .ack hrv q2
    have idle : ∀ {u : Int} {y : Bool}, u = (if y = true then 1 + (S.D.length : Int) else 1) → (y = true → 1 ≤ S.D.length) → ∃ rows, Run now (eOP S.A S.B S.f S.g u u r w tt tb [] pl os' oa si wa tr) rows (eOP S.A S.B S.f S.g u u r w tt tb [] pl os' false si wa tr) ∧ RowsOf S (ak oa y rv) rows := fun {u y} q1 q2 => by
      cases oa with
      | true => exact ⟨_, .cons s14_op1 (put_ne _) (.nil s14_op0), .cons (akR q1 q2) .nil⟩
      | false => exact ⟨_, .nil s14_op0, .nil⟩
    rcases hd2 with ⟨rfl, rfl, rfl, rfl⟩ | ⟨rfl, rfl, rfl, rfl, h1⟩ | ⟨rfl, rfl, rfl, rfl, h1⟩
    · by_cases h1 : 1 ≤ S.D.length
      · have ht : hd = true := by rw [hhd]; exact decide_eq_true h1
        refine ⟨(⟨.op, 1, rv, fi⟩, [.dat rv]), by rw [ht]; exact List.mem_cons_self .., _, _, .cons (s14_op2 h1 hD (by omega)) (put_ne _) (.nil (s14_op4 h1 hD (by omega))), .cons ?_ .nil, ?_⟩
        · rw [hrr, hroom]
          exact .dat (.inr rfl) hrv h1
        · exact .op hw (Tm.start (by have := tm.1; have := tm.2.1; omega)) (.inr (.inl ⟨rfl, rfl, rfl, rfl, h1⟩)) hr2
      · have ht : hd = false := by rw [hhd]; exact decide_eq_false h1
        have hnil : S.D = [] := List.eq_nil_of_length_eq_zero (by omega)
        obtain ⟨rows, g1, g2⟩ := idle (u := 1) (y := false) rfl (fun z => nomatch z)
        have rel : RelE S now ⟨⟨.op, 0, rv, fi⟩, false, false⟩ (eOP S.A S.B S.f S.g 1 1 r w tt tb [] pl os' false si wa tr) := .op hw tm (.inl ⟨rfl, rfl, rfl, hnil.symm⟩) hr2
        rw [← hnil] at g1 rel
        exact ⟨(⟨.op, 0, rv, fi⟩, ak oa false rv), by rw [ht]; exact List.mem_cons_self .., rows, _, g1, g2, rel⟩
    · have tl : ∀ {si wa tr}, now - si < wa → ∃ rows, Run now (eOP S.A S.B S.f S.g 1 (1 + (S.D.length : Int)) r w tt tb S.D pl os' oa si wa tr) rows (eOP S.A S.B S.f S.g 1 (1 + (S.D.length : Int)) r w tt tb S.D pl os' false si wa tr) ∧ RowsOf S (ak oa true rv) rows := fun {si wa tr} hlt => by
        cases oa with
        | true => exact ⟨_, .cons (s14_op4 h1 hD hlt) (put_ne _) (.nil (s14_op4 h1 hD hlt)), .cons (akR (y := true) rfl (fun _ => h1)) .nil⟩
        | false => exact ⟨_, .nil (s14_op4 h1 hD hlt), .nil⟩
      by_cases due : wa ≤ now - si
      · obtain ⟨f1, f2⟩ := tm.fire hn due
        obtain ⟨rows, g1, g2⟩ := tl (si := now) (wa := mn (2 * wa) 16000) (tr := tr + 1) (by have := mn_pos tm.pos; omega)
        refine ⟨(⟨.op, 1, rv, fi⟩, .dat rv :: ak oa true rv), List.mem_cons_self .., _, _, .cons (s14_op3 h1 hD due f1) (put_ne _) g1, .cons ?_ g2, .op hw f2 (.inr (.inl ⟨rfl, rfl, rfl, rfl, h1⟩)) hr2⟩
        rw [hrr, hroom]
        exact .dat (.inl rfl) hrv h1
      · obtain ⟨rows, g1, g2⟩ := tl (si := si) (wa := wa) (tr := tr) (by omega)
        exact ⟨(⟨.op, 1, rv, fi⟩, ak oa true rv), List.mem_cons_of_mem _ (List.mem_cons_self ..), _, _, g1, g2, .op hw tm (.inr (.inl ⟨rfl, rfl, rfl, rfl, h1⟩)) hr2⟩
    · obtain ⟨rows, g1, g2⟩ := idle (u := 1 + (S.D.length : Int)) (y := true) rfl (fun _ => h1)
      exact ⟨(⟨.op, 2, rv, fi⟩, ak oa true rv), List.mem_cons_self .., _, _, g1, g2, .op hw tm (.inr (.inr ⟨rfl, rfl, rfl, rfl, h1⟩)) hr2⟩
/-- a road is brought -/
theorem sim_dlvs (ok : SdOk S) (hk : now = 1000 * (k : Int)) {hp : Bool} (hhp : hp = decide (1 ≤ S.D'.length)) {cs : List Kd} {rows : List (List Int)} (hr : RowsOf S.sw cs rows) : ∀ {s s' : Of} {e : EndS}, RelE S now s e → dlvs k hp cs s = some s' → RelE S now s' (rows.foldl (fun e r => (E.arrive e r now).1) e) := by
  induction hr with
  | nil =>
    intro s s' e h hd
    rw [dlvs] at hd
    rw [List.foldl_nil, ← Option.some.inj hd]
    exact h
  | @cons c cs r rs hr t ih =>
    intro s s' e h hd
    rw [dlvs] at hd
    rw [List.foldl_cons]
    cases q : dlv k hp s c with
    | none => rw [q] at hd; cases hd
    | some s1 =>
      rw [q] at hd
      exact ih (sim_dlv ok (by omega) (by omega) hhp h hr q) hd
end
end M

set_option maxHeartbeats 400000
/-! Two hosts: the play, by phases alone. -/
namespace A40
open A14
inductive X where
  | c0
  | lc (os : Bool)
  | of (o : Of)
deriving DecidableEq
/-- what goes from an end -/
def sn (b : Bool) : X → Option (X × Kd)
  | .c0 => some (.of ⟨⟨.ss, 0, false, true⟩, false, false⟩, .syn)
  | .lc _ => some (.of ⟨⟨.sc, 0, false, true⟩, false, false⟩, .sya)
  | .of o => match o.a.ph with
    | .ss => none
    | .sc => if o.os = true then some (.of { o with os := false }, .sya) else if o.oa = true then some (.of { o with oa := false }, .ack false false) else none
    | .op => if (b && decide (o.a.dn = 0)) = true then some (.of { o with a := { o.a with dn := 1 }, oa := false }, .dat o.a.rv)
        else if o.oa = true then some (.of { o with oa := false }, .ack (!decide (o.a.dn = 0)) o.a.rv) else none
/-- what comes to an end -/
def dl (b : Bool) : X → Kd → Option X
  | .lc _, .syn => some (.lc true)
  | .of o, k => match dlv 1 b o k with
    | none => none
    | some o => some (.of o)
  | _, _ => none
structure Ho where
  turn : Nat
  l : List X
deriving DecidableEq
def go (b : Bool) : Nat → Nat → Ho → Ho × Option (Nat × Kd)
  | 0, _, h => (h, none)
  | f + 1, k, h => match h.l[(h.turn + k) % h.l.length]? with
    | none => (h, none)
    | some x => match sn b x with
      | none => go b f (k + 1) h
      | some (x', kd) => (⟨(h.turn + k + 1) % h.l.length, h.l.set ((h.turn + k) % h.l.length) x'⟩, some ((h.turn + k) % h.l.length, kd))
def snds (b : Bool) (h : Ho) : Ho × Option (Nat × Kd) := go b h.l.length 0 h
def arr (pas b : Bool) (h : Ho) (i : Nat) (kd : Kd) : Option Ho := match h.l[i]? with
  | some x => match dl b x kd with
    | none => none
    | some x => some { h with l := h.l.set i x }
  | none => if (pas && (decide (i = h.l.length) && decide (kd = .syn))) = true then some { h with l := h.l ++ [.lc false] } else none
/-- one sends, the other hears -/
def half (pas b dup : Bool) (a o : Ho) : Option (Ho × Ho × Bool) := match snds b a with
  | (a', none) => some (a', o, true)
  | (a', some (i, kd)) => match arr pas b o i kd with
    | none => none
    | some o1 => if dup = true then (match arr pas b o1 i kd with
      | none => none
      | some o2 => some (a', o2, false)) else some (a', o1, false)
def flow (b : Bool) (d : Nat) : Nat → Nat → Ho → Ho → Option (Ho × Ho)
  | 0, _, _, _ => none
  | f + 1, k, h0, h1 => match half false b (decide ((d + k) % 4 = 0)) h0 h1 with
    | none => none
    | some (h0, h1, s0) => match half true b (decide ((d + k) % 4 = 0)) h1 h0 with
      | none => none
      | some (h1, h0, s1) => if (s0 && s1) = true then some (h0, h1) else flow b d f (k + 1) h0 h1
def init (n : Nat) : Ho := ⟨0, List.replicate n .c0⟩
def rdy : X → Bool
  | .of o => decide (o.a.ph = .op) && (decide (o.a.dn = 0) && !o.a.rv)
  | _ => false
def fin : X → Bool
  | .of o => decide (o.a.ph = .op) && o.a.rv
  | _ => false
def good2 (n : Nat) (a0 a1 : Ho) (d : Nat) : Bool := match flow true d 40 0 a0 a1 with
  | none => false
  | some (b0, b1) => decide (b0.l.length = n) && (decide (b1.l.length = n) && (b0.l.all fin && b1.l.all fin))
def good1 (n d : Nat) : Bool := match flow false d 40 0 ⟨0, []⟩ (init n) with
  | none => false
  | some (a0, a1) => decide (a0.l.length = n) && (decide (a1.l.length = n) && (a0.l.all rdy && (a1.l.all rdy && [0, 1, 2, 3].all (good2 n a0 a1))))
theorem good_all : ([1, 2, 3, 4].all fun n => [0, 1, 2, 3].all (good1 n)) = true := by decide +kernel
theorem plays {n d : Nat} (h1 : 1 ≤ n) (h4 : n ≤ 4) (hd : d < 4) : ∃ a0 a1, flow false d 40 0 ⟨0, []⟩ (init n) = some (a0, a1) ∧ a0.l.length = n ∧ a1.l.length = n ∧ (∀ x, x ∈ a0.l → rdy x = true) ∧ (∀ x, x ∈ a1.l → rdy x = true) ∧
    ∀ d2, d2 < 4 → ∃ b0 b1, flow true d2 40 0 a0 a1 = some (b0, b1) ∧ b0.l.length = n ∧ b1.l.length = n ∧ (∀ x, x ∈ b0.l → fin x = true) ∧ (∀ x, x ∈ b1.l → fin x = true) := by
  have hn : n ∈ [1, 2, 3, 4] := by simp; omega
  have hdm : ∀ {d : Nat}, d < 4 → d ∈ [0, 1, 2, 3] := fun {d} h => by simp; omega
  have g := List.all_eq_true.mp (List.all_eq_true.mp good_all n hn) d (hdm hd)
  unfold good1 at g
  split at g
  · cases g
  · rename_i a0 a1 e
    simp only [Bool.and_eq_true, decide_eq_true_eq] at g
    obtain ⟨g1, g2, g3, g4, g5⟩ := g
    refine ⟨a0, a1, e, g1, g2, fun x hx => List.all_eq_true.mp g3 x hx, fun x hx => List.all_eq_true.mp g4 x hx, fun d2 hd2 => ?_⟩
    have g := List.all_eq_true.mp g5 d2 (hdm hd2)
    unfold good2 at g
    split at g
    · cases g
    · rename_i b0 b1 e2
      simp only [Bool.and_eq_true, decide_eq_true_eq] at g
      obtain ⟨q1, q2, q3, q4⟩ := g
      exact ⟨b0, b1, e2, q1, q2, fun x hx => List.all_eq_true.mp q3 x hx, fun x hx => List.all_eq_true.mp q4 x hx⟩
end A40

set_option maxHeartbeats 400000
/-! Two hosts: ends by phases. -/
namespace M
open A14 (Kd Of Ab Ph dlv)
open A40 (X sn dl)
abbrev eLC (A B f g : Int) (os : Bool) : EndS :=
  { ours := A, theirs := B, first := f, state := .synCome, una := f, nxt := f, synced := false, rcv := plus g 1, wnd := 64, told := g, told_by := 0, most := 16, out := [], pile := Pile0, fin := false, fin_gone := false, reset := none, owes_syn := os, owes_answer := false, since := 0, wait := 1000, tries := 0, probing := false, error := .none }
inductive RelX (S : Sd) : X → EndS → Prop
  | c0 (h : S.D = []) : RelX S .c0 (opened S.A S.B S.f true)
  | lc {os : Bool} (h : S.D = []) : RelX S (.lc os) (eLC S.A S.B S.f S.g os)
  | of {o : Of} {e : EndS} (hf : o.a.fi = true) (h : RelE S 5 o e) : RelX S (.of o) e
section
variable {A B f g : Int} {os : Bool} {S : Sd} {now : Int} {x x' : X} {kd : Kd} {e : EndS} {row : List Int} {b : Bool}
theorem l40_1 : E.send (eLC A B f g os) now = (eSC A B f g [] false false now 1000 0, rSYA A B f g) := by
  simp [E.send, E.send2, E.inS, E.outstanding, offset_self, E.syn_goes, E.syn2, start, E.syn_made, rSYA]
theorem l40_2 (hg : 0 ≤ g ∧ g ≤ 4294967295) : E.arrive_segment (eLC A B f g os) ⟨B, A, g, 0, 2, 64, 16, []⟩ now = (eLC A B f g true, true) := by
  have ho := off_m1 hg (r := 1) (by omega)
  simp [E.arrive_segment, E.inS, E.at_others, E.fits, M.length, M.b2i, M.has, ho, E.out_of_place, E.oop2, room, Pile0]
theorem l40_3 : E.arrive_segment (opened A B f false) ⟨B, A, g, 0, 2, 64, 16, []⟩ now = (eLC A B f g false, true) := by
  simp [E.arrive_segment, opened, E.at_listen, E.hear_syn, E.hear_window, E.inS, M.has]
theorem Tm.not_due {si wa tr : Int} (h : Tm 5 si wa tr) : 5 - si < wa := by obtain ⟨h0, h1, h2⟩ := h; omega
/-- who an end is -/
theorem RelX.who (h : RelX S x e) : e.ours = S.A ∧ e.theirs = S.B ∧ e.state ≠ .closed := by
  cases h with
  | c0 h => exact ⟨rfl, rfl, fun z => by cases z⟩
  | lc h => exact ⟨rfl, rfl, fun z => by cases z⟩
  | of hf h => cases h with
    | ss t b => exact ⟨rfl, rfl, fun z => by cases z⟩
    | sc t b => exact ⟨rfl, rfl, fun z => by cases z⟩
    | op hw tm hd hr => exact ⟨rfl, rfl, fun z => by cases z⟩
theorem RelX.sz (ok : SdOk S) (h : RelX S x e) : Sz e ∧ Lg.PSz e.pile := by
  have hD := ok.D; have hD' := ok.D'
  cases h with
  | c0 h => exact ⟨sz_opened _ _ _ _, by show (0 : Nat) + 0 ≤ 10000; decide⟩
  | lc h => exact ⟨⟨Nat.zero_le _, fun s h => nomatch h⟩, by show (0 : Nat) + 0 ≤ 10000; decide⟩
  | of hf h => cases h with
    | ss t b => exact ⟨⟨by show S.D.length ≤ 1000; omega, fun s h => nomatch h⟩, by show (0 : Nat) + 0 ≤ 10000; decide⟩
    | sc t b => exact ⟨⟨by show S.D.length ≤ 1000; omega, fun s h => nomatch h⟩, by show (0 : Nat) + 0 ≤ 10000; decide⟩
    | op hw tm hd hr =>
      refine ⟨⟨?_, fun s h => nomatch h⟩, ?_⟩
      · rcases hd with ⟨_, _, _, rfl⟩ | ⟨_, _, _, rfl, _⟩ | ⟨_, _, _, rfl, _⟩
        · show S.D.length ≤ 1000; omega
        · show S.D.length ≤ 1000; omega
        · exact Nat.zero_le _
      · rcases hr with ⟨_, _, rfl⟩ | ⟨_, _, _, ea, hea, rfl⟩
        · show (0 : Nat) + 0 ≤ 10000; decide
        · show S.D'.length + ea.length ≤ 10000; omega
/-- a row, as a segment -/
theorem row_seg (ok : SdOk S) (h : RowOf S kd row) : ∃ s, row = put s ∧ Ok s ∧ s.src = S.A ∧ s.goal = S.B ∧ (kd = .syn → s = ⟨S.A, S.B, S.f, 0, 2, 64, 16, []⟩) := by
  have hA := ok.A; have hB := ok.B; have hf := ok.f; have hg := ok.g; have hD := ok.D; have hD' := ok.D'
  cases h with
  | syn => exact ⟨_, rfl, ok_mk hA hB hf (by decide) (by decide) (by decide) (.inr ⟨by decide, by decide, by decide⟩) (Nat.zero_le _) by_nil, rfl, rfl, fun _ => rfl⟩
  | sya => exact ⟨_, rfl, ok_mk hA hB hf (plus_rg _ _) (by decide) (by decide) (.inr ⟨by decide, by decide, by decide⟩) (Nat.zero_le _) by_nil, rfl, rfl, fun z => nomatch z⟩
  | ack hz hy => exact ⟨_, rfl, ok_mk hA hB (plus_rg _ _) (plus_rg _ _) (by decide) (by split <;> omega) (.inl rfl) (Nat.zero_le _) by_nil, rfl, rfl, fun z => nomatch z⟩
  | dat hfl hz h1 => exact ⟨_, rfl, ok_mk hA hB (plus_rg _ _) (plus_rg _ _) (by omega) (by split <;> omega) (.inl rfl) (by omega) ok.by1, rfl, rfl, fun z => nomatch z⟩
/-- what goes from an end -/
theorem RelX.one (ok : SdOk S) (hb : b = decide (1 ≤ S.D.length)) (h : RelX S x e) :
    match sn b x with
    | none => E.send e 5 = (e, [])
    | some (x', kd) => ∃ e' row, E.send e 5 = (e', row) ∧ row ≠ [] ∧ RowOf S kd row ∧ RelX S x' e' := by
  have hf := ok.f; have hg := ok.g; have hD := ok.D; have hD' := ok.D'
  have hDD : b = false → S.D = [] := fun q => List.eq_nil_of_length_eq_zero (by rw [q] at hb; have := of_decide_eq_false hb.symm; omega)
  cases h with
  | c0 h =>
    refine ⟨_, _, send_first _ _ _ _, synB_ne _ _ _, .syn, .of rfl ?_⟩
    have t : RelE S 5 ⟨⟨.ss, 0, false, true⟩, false, false⟩ (eSS S.A S.B S.f S.D 5 1000 0) := .ss (Tm.start (by decide)) (fun q => nomatch q)
    rw [h] at t
    exact t
  | lc h =>
    refine ⟨_, _, l40_1, put_ne _, .sya, .of rfl ?_⟩
    have t : RelE S 5 ⟨⟨.sc, 0, false, true⟩, false, false⟩ (eSC S.A S.B S.f S.g S.D false false 5 1000 0) := .sc (Tm.start (by decide)) (fun q => nomatch q)
    rw [h] at t
    exact t
  | @of o e hfi h =>
    cases h with
    | @ss fi si wa tr t tb => exact s14_ss0 hf t.not_due
    | @sc fi os oa si wa tr t tb =>
      have nd := t.not_due
      cases os with
      | true => exact ⟨_, _, s14_sc2 hf nd, put_ne _, .sya, .of hfi (.sc t tb)⟩
      | false =>
        cases oa with
        | true => exact ⟨_, _, s14_sc3 hf nd, put_ne _, .ack (y := false) (z := false) (fun z => nomatch z) (fun z => nomatch z), .of hfi (.sc t tb)⟩
        | false => exact s14_sc4 hf nd
    | @op dn rv fi os os' oa u x r w tt tb si wa tr out pl hw tm hd2 hr2 =>
      have nd := tm.not_due
      have hroom : room pl = (if rv = true then 64 - (S.D'.length : Int) else 64) := by
        rcases hr2 with ⟨q1, _, q⟩ | ⟨q1, _, _, ea, _, q⟩ <;> rw [q1, q] <;> rfl
      have hrr : r = (if rv = true then 1 + (S.D'.length : Int) else 1) := by
        rcases hr2 with ⟨q1, q, _⟩ | ⟨q1, q, _⟩ <;> rw [q1, q] <;> rfl
      have hrv : rv = true → 1 ≤ S.D'.length := fun q => by
        rcases hr2 with ⟨q1, _⟩ | ⟨_, _, q1, _⟩
        · rw [q] at q1; cases q1
        · exact q1
      have akR : ∀ {y : Bool} {xx : Int}, xx = (if y = true then 1 + (S.D.length : Int) else 1) → (y = true → 1 ≤ S.D.length) → RowOf S (.ack y rv) (rACK S.A S.B S.f S.g xx r (room pl)) := fun {y xx} q1 q2 => by
        rw [q1, hrr, hroom]
        exact .ack hrv q2
      rcases hd2 with ⟨rfl, rfl, rfl, rfl⟩ | ⟨rfl, rfl, rfl, rfl, h1⟩ | ⟨rfl, rfl, rfl, rfl, h1⟩
      · cases b with
        | true =>
          have h1 : 1 ≤ S.D.length := of_decide_eq_true hb.symm
          refine ⟨_, _, s14_op2 h1 hD (by omega), put_ne _, ?_, .of hfi (.op hw (Tm.start (by decide)) (.inr (.inl ⟨rfl, rfl, rfl, rfl, h1⟩)) hr2)⟩
          rw [hrr, hroom]
          exact .dat (.inr rfl) hrv h1
        | false =>
          have hnil := hDD rfl
          rw [hnil]
          cases oa with
          | true =>
            refine ⟨_, _, s14_op1, put_ne _, akR (y := false) rfl (fun z => nomatch z), .of hfi ?_⟩
            exact .op hw tm (.inl ⟨rfl, rfl, rfl, hnil.symm⟩) hr2
          | false => exact s14_op0
      · cases oa with
        | true =>
          have q := s14_op4 (A := S.A) (B := S.B) (f := S.f) (g := S.g) (r := r) (w := w) (t := tt) (tb := tb) (D := S.D) (pl := pl) (os := os') (oa := true) (si := si) (wa := wa) (tr := tr) (now := 5) h1 hD nd
          rw [if_pos rfl] at q
          have z : sn b (.of ⟨⟨.op, 1, rv, fi⟩, os, true⟩) = some (.of ⟨⟨.op, 1, rv, fi⟩, os, false⟩, .ack true rv) := by simp [sn]
          rw [z]
          exact ⟨_, _, q, put_ne _, akR (y := true) rfl (fun _ => h1), .of hfi (.op hw tm (.inr (.inl ⟨rfl, rfl, rfl, rfl, h1⟩)) hr2)⟩
        | false =>
          have q := s14_op4 (A := S.A) (B := S.B) (f := S.f) (g := S.g) (r := r) (w := w) (t := tt) (tb := tb) (D := S.D) (pl := pl) (os := os') (oa := false) (si := si) (wa := wa) (tr := tr) (now := 5) h1 hD nd
          rw [if_neg (by decide)] at q
          have z : sn b (.of ⟨⟨.op, 1, rv, fi⟩, os, false⟩) = none := by simp [sn]
          rw [z]
          exact q
      · cases oa with
        | true =>
          have z : sn b (.of ⟨⟨.op, 2, rv, fi⟩, os, true⟩) = some (.of ⟨⟨.op, 2, rv, fi⟩, os, false⟩, .ack true rv) := by simp [sn]
          rw [z]
          exact ⟨_, _, s14_op1, put_ne _, akR (y := true) rfl (fun _ => h1), .of hfi (.op hw tm (.inr (.inr ⟨rfl, rfl, rfl, rfl, h1⟩)) hr2)⟩
        | false =>
          have z : sn b (.of ⟨⟨.op, 2, rv, fi⟩, os, false⟩) = none := by simp [sn]
          rw [z]
          exact s14_op0
theorem dlv_fi {k : Nat} {hp : Bool} {o o' : Of} (hf : o.a.fi = true) (h : dlv k hp o kd = some o') : o'.a.fi = true := by
  unfold dlv at h
  repeat' split at h
  all_goals first | (cases h; done) | (obtain rfl := Option.some.inj h; first | rfl | exact hf | (show (o.a.fi || _) = true; rw [hf]; rfl))
/-- what comes to an end -/
theorem RelX.arr (ok : SdOk S) (hb : b = decide (1 ≤ S.D'.length)) (h : RelX S x e) (hr : RowOf S.sw kd row) (hd : dl b x kd = some x') : RelX S x' (E.arrive e row 5).1 := by
  cases h with
  | c0 h => cases hd
  | lc h =>
    cases hr with
    | syn =>
      obtain rfl := Option.some.inj (show some (X.lc true) = some x' from hd)
      show RelX S _ (E.arrive _ (put ⟨S.B, S.A, S.g, 0, 2, 64, 16, []⟩) 5).1
      rw [arrive_put (ok_mk ok.B ok.A ok.g (by decide) (by decide) (by decide) (.inr ⟨by decide, by decide, by decide⟩) (Nat.zero_le _) by_nil), l40_2 ok.g]
      exact .lc h
    | sya => cases hd
    | ack hz hy => cases hd
    | dat hfl hz h1 => cases hd
  | @of o e hfi h =>
    have hd : (match dlv 1 b o kd with | none => none | some o => some (X.of o)) = some x' := hd
    cases q : dlv 1 b o kd with
    | none => rw [q] at hd; cases hd
    | some o' =>
      rw [q] at hd
      obtain rfl := Option.some.inj hd
      exact .of (dlv_fi hfi q) (sim_dlv ok (by decide) (by decide) hb h hr q)
end
end M

set_option maxHeartbeats 400000
/-! Two hosts: hosts by phases. -/
namespace M
open A14 (Kd Of Ab Ph dlv)
open A40 (X Ho sn dl)
structure RelH (Sv : Nat → Sd) (h : HostS) (a : Ho) : Prop where
  tn : h.turn = (a.turn : Int)
  ln : h.ends.length = a.l.length
  en : ∀ i x, a.l[i]? = some x → ∃ e, h.ends[i]? = some e ∧ RelX (Sv i) x e
  sp : ∃ f, h.spare = opened 0 0 f false
structure SvOk (Sv : Nat → Sd) (n : Nat) (b : Bool) : Prop where
  ok : ∀ i, i < n → SdOk (Sv i)
  b1 : ∀ i, i < n → b = decide (1 ≤ (Sv i).D.length)
  b2 : ∀ i, i < n → b = decide (1 ≤ (Sv i).D'.length)
  un : ∀ i j, i < n → j < n → (Sv i).A = (Sv j).A → (Sv i).B = (Sv j).B → i = j
section
variable {Sv : Nat → Sd} {h h' : HostS} {a a' : Ho} {n i : Nat} {b pas : Bool} {kd : Kd} {row : List Int}
theorem SvOk.sw (h : SvOk Sv n b) : SvOk (fun i => (Sv i).sw) n b := ⟨fun i hi => (h.ok i hi).sw, h.b2, h.b1, fun i j hi hj e1 e2 => h.un i j hi hj e2 e1⟩
theorem RelH.sz (ok : SvOk Sv n b) (hn : a.l.length ≤ n) (hn4 : n ≤ 4) (R : RelH Sv h a) : HSz h ∧ (∀ e ∈ h.ends, Lg.PSz e.pile) ∧ h.ends.length ≤ 1000 := by
  have key : ∀ e ∈ h.ends, Sz e ∧ Lg.PSz e.pile := fun e he => by
    obtain ⟨j, hj, rfl⟩ := List.getElem_of_mem he
    have hj2 : j < a.l.length := by rw [← R.ln]; exact hj
    obtain ⟨e, h1, h2⟩ := R.en j _ (List.getElem?_eq_getElem hj2)
    rw [List.getElem?_eq_getElem hj] at h1
    rw [Option.some.inj h1]
    exact h2.sz (ok.ok j (by omega))
  have hl : h.ends.length ≤ 1000 := by rw [R.ln]; omega
  obtain ⟨f, hf⟩ := R.sp
  exact ⟨⟨by rw [hf]; exact sz_opened _ _ _ _, fun e he => (key e he).1, hl⟩, fun e he => (key e he).2, hl⟩
theorem hgo_rel (ok : SvOk Sv n b) (hn : a.l.length ≤ n) (R : RelH Sv h a) : ∀ f k : Nat,
    match A40.go b f k a with
    | (_, none) => hgo 5 f k h = (h, [])
    | (a', some (i, kd)) => ∃ h' row, hgo 5 f k h = (h', row) ∧ row ≠ [] ∧ RowOf (Sv i) kd row ∧ RelH Sv h' a' ∧ i < a.l.length ∧ a'.l.length = a.l.length ∧ h'.first = h.first
  | 0, k => rfl
  | f + 1, k => by
    have ih := hgo_rel ok hn R f (k + 1)
    have hix : a.l.length ≠ 0 → hidx h k = (a.turn + k) % a.l.length := fun q => by
      unfold hidx
      rw [R.tn, R.ln]
      have : ((a.turn : Int) + (k : Int)) % (a.l.length : Int) = (((a.turn + k) % a.l.length : Nat) : Int) := by rw [Int.natCast_emod, Int.natCast_add]
      rw [this, Int.toNat_natCast]
    unfold A40.go
    cases hx : a.l[(a.turn + k) % a.l.length]? with
    | none =>
      show hgo 5 (f + 1) k h = (h, [])
      have h0 : a.l.length = 0 := by
        by_cases q : a.l.length = 0
        · exact q
        · have := List.getElem?_eq_none_iff.mp hx
          have := Nat.mod_lt (a.turn + k) (Nat.pos_of_ne_zero q)
          omega
      have he : h.ends = [] := List.eq_nil_of_length_eq_zero (by rw [R.ln, h0])
      unfold hgo
      rw [he]
      rfl
    | some x =>
      have hlt : (a.turn + k) % a.l.length < a.l.length := (List.getElem?_eq_some_iff.mp hx).1
      obtain ⟨e, h1, h2⟩ := R.en _ x hx
      have hlt2 : (a.turn + k) % a.l.length < n := by omega
      have one := h2.one (ok.ok _ hlt2) (ok.b1 _ hlt2)
      have hx2 : h.ends[hidx h k]? = some e := by rw [hix (by omega)]; exact h1
      show (match (match sn b x with | none => A40.go b f (k + 1) a | some (x', kd) => ((⟨(a.turn + k + 1) % a.l.length, a.l.set ((a.turn + k) % a.l.length) x'⟩ : Ho), some ((a.turn + k) % a.l.length, kd))) with
        | (_, none) => hgo 5 (f + 1) k h = (h, [])
        | (a', some (i, kd)) => ∃ h' row, hgo 5 (f + 1) k h = (h', row) ∧ row ≠ [] ∧ RowOf (Sv i) kd row ∧ RelH Sv h' a' ∧ i < a.l.length ∧ a'.l.length = a.l.length ∧ h'.first = h.first)
      rw [hgo_step hx2]
      cases q : sn b x with
      | none =>
        rw [q] at one
        have one : E.send e 5 = (e, []) := one
        rw [one]
        have es : ({ h with ends := h.ends.set (hidx h k) (e, ([] : List Int)).1 } : HostS) = h := by
          show ({ h with ends := h.ends.set (hidx h k) e } : HostS) = h
          rw [set_same hx2]
        rw [es]
        exact ih
      | some y =>
        obtain ⟨x', kd⟩ := y
        rw [q] at one
        obtain ⟨e', row, g1, g2, g3, g4⟩ := one
        rw [g1]
        have hne : (!row.isEmpty) = true := by cases row with | nil => exact absurd rfl g2 | cons a l => rfl
        show ∃ h' row', (if (!row.isEmpty) = true then (({ h with ends := h.ends.set (hidx h k) e', turn := (h.turn + (k : Int) + 1) % (h.ends.length : Int) }, row) : HostS × List Int) else _) = (h', row') ∧ _
        rw [if_pos hne]
        refine ⟨_, _, rfl, g2, g3, ⟨?_, ?_, fun i y hy => ?_, R.sp⟩, hlt, List.length_set, rfl⟩
        · show (h.turn + (k : Int) + 1) % (h.ends.length : Int) = (((a.turn + k + 1) % a.l.length : Nat) : Int)
          rw [R.tn, R.ln, Int.natCast_emod, Int.natCast_add, Int.natCast_add]
          rfl
        · show (h.ends.set _ _).length = (a.l.set _ _).length
          rw [List.length_set, List.length_set]
          exact R.ln
        · have hy : (a.l.set ((a.turn + k) % a.l.length) x')[i]? = some y := hy
          show ∃ e, (h.ends.set (hidx h k) e')[i]? = some e ∧ _
          rw [hix (by omega)]
          by_cases z : (a.turn + k) % a.l.length = i
          · subst z
            rw [List.getElem?_set_self hlt] at hy
            obtain rfl := Option.some.inj hy
            exact ⟨e', List.getElem?_set_self (by rw [R.ln]; exact hlt), g4⟩
          · rw [List.getElem?_set_ne z] at hy ⊢
            exact R.en i y hy
theorem hs_rel (ok : SvOk Sv n b) (hn : a.l.length ≤ n) (R : RelH Sv h a) :
    match A40.snds b a with
    | (_, none) => hsends h 5 = (h, [])
    | (a', some (i, kd)) => ∃ h' row, hsends h 5 = (h', row) ∧ row ≠ [] ∧ RowOf (Sv i) kd row ∧ RelH Sv h' a' ∧ i < a.l.length ∧ a'.l.length = a.l.length ∧ h'.first = h.first := by
  obtain ⟨f, hf⟩ := R.sp
  have e : hsends h 5 = hgo 5 a.l.length 0 h := by
    unfold hsends
    rw [hf, spare_quiet, if_neg (by simp), R.ln, ← hf]
  rw [e]
  exact hgo_rel ok hn R _ _
theorem row_small {S : Sd} (ok : SdOk S) (h : RowOf S kd row) : row.length ≤ 900 := by
  have hD := ok.D
  cases h with
  | syn => exact put_small (Nat.zero_le _)
  | sya => exact put_small (Nat.zero_le _)
  | ack hz hy => exact put_small (Nat.zero_le _)
  | dat hfl hz h1 => exact put_small (show S.D.length ≤ _ by omega)
theorem go_none {f k : Nat} : ∀ {a a' : Ho}, A40.go b f k a = (a', none) → a' = a := by
  induction f generalizing k with
  | zero => intro a a' h; exact (Prod.mk.inj h).1.symm
  | succ f ih =>
    intro a a' h
    unfold A40.go at h
    split at h
    · exact (Prod.mk.inj h).1.symm
    · split at h
      · exact ih h
      · cases h
theorem hit_who {x : X} {S : Sd} {e : EndS} {p q : Int} (h : RelX S x e) : hit p q e = (decide (S.A = p) && decide (S.B = q)) := by
  obtain ⟨h1, h2, h3⟩ := h.who
  unfold hit
  rw [h1, h2, decide_eq_false h3]
  simp
/-- a row comes to a host -/
theorem arr_rel (ok : SvOk Sv n b) (hn : a.l.length ≤ n) (R : RelH Sv h a) (hi : i < n) (hr : RowOf (Sv i).sw kd row) (hd : A40.arr pas b a i kd = some a') (hnew : pas = true → a.l.length < n → (Sv a.l.length).D = [] ∧ h.first = (Sv a.l.length).f) :
    isRight row = true ∧ row.length ≤ 900 ∧
    ((∃ e, h.ends[i]? = some e ∧ hit (getS row).goal (getS row).src e = true ∧ (∀ (j : Nat) e', j < i → h.ends[j]? = some e' → hit (getS row).goal (getS row).src e' = false) ∧ RelH Sv (hset h i (E.arrive_segment e (getS row) 5).1) a' ∧ a'.l.length = a.l.length) ∨
     (pas = true ∧ (∀ e ∈ h.ends, hit (getS row).goal (getS row).src e = false) ∧ i = a.l.length ∧ wants (getS row) = true ∧ (getS row).goal = (Sv i).A ∧
        RelH Sv (hadd (hfirst h) (E.arrive_segment (opened (getS row).goal (getS row).src h.first false) (getS row) 5).1) a' ∧ a'.l.length = a.l.length + 1)) := by
  obtain ⟨s, e1, e2, e3, e4, e5⟩ := row_seg (ok.ok i hi).sw hr
  have hright : isRight row = true := by rw [e1]; exact put_right e2
  have hget : getS row = s := by rw [e1]; exact getS_put e2
  have hsrc : s.src = (Sv i).B := e3
  have hgoal : s.goal = (Sv i).A := e4
  have miss : ∀ j, j < a.l.length → j ≠ i → ∀ e', h.ends[j]? = some e' → hit s.goal s.src e' = false := fun j hj hji e' he' => by
    obtain ⟨e, g1, g2⟩ := R.en j _ (List.getElem?_eq_getElem hj)
    rw [he'] at g1
    obtain rfl := Option.some.inj g1
    rw [hit_who g2, hsrc, hgoal]
    cases q : (decide ((Sv j).A = (Sv i).A) && decide ((Sv j).B = (Sv i).B)) with
    | false => rfl
    | true =>
      obtain ⟨q1, q2⟩ := Bool.and_eq_true_iff.mp q
      exact absurd (ok.un j i (by omega) hi (of_decide_eq_true q1) (of_decide_eq_true q2)) hji
  refine ⟨hright, row_small (ok.ok i hi).sw hr, ?_⟩
  rw [hget]
  unfold A40.arr at hd
  cases hx : a.l[i]? with
  | some x =>
    rw [hx] at hd
    have hlt : i < a.l.length := (List.getElem?_eq_some_iff.mp hx).1
    obtain ⟨e, g1, g2⟩ := R.en i x hx
    have hd : (match dl b x kd with | none => none | some x => some ({ a with l := a.l.set i x } : Ho)) = some a' := hd
    cases q : dl b x kd with
    | none => rw [q] at hd; cases hd
    | some x' =>
      rw [q] at hd
      obtain rfl := Option.some.inj hd
      have g3 := g2.arr (ok.ok i hi) (ok.b2 i hi) hr q
      rw [e1, arrive_put e2] at g3
      refine .inl ⟨e, g1, ?_, fun j e' hj he' => miss j (by omega) (by omega) e' he', ⟨R.tn, ?_, fun j y hy => ?_, R.sp⟩, List.length_set⟩
      · rw [hit_who g2, hsrc, hgoal, decide_eq_true rfl, decide_eq_true rfl]; rfl
      · show (h.ends.set _ _).length = (a.l.set _ _).length
        rw [List.length_set, List.length_set]
        exact R.ln
      · have hy : (a.l.set i x')[j]? = some y := hy
        show ∃ e2, (h.ends.set i _)[j]? = some e2 ∧ _
        by_cases z : i = j
        · subst z
          rw [List.getElem?_set_self hlt] at hy
          obtain rfl := Option.some.inj hy
          exact ⟨_, List.getElem?_set_self (by rw [R.ln]; exact hlt), g3⟩
        · rw [List.getElem?_set_ne z] at hy ⊢
          exact R.en j y hy
  | none =>
    rw [hx] at hd
    replace hd : (if (pas && (decide (i = a.l.length) && decide (kd = .syn))) = true then some ({ a with l := a.l ++ [.lc false] } : Ho) else none) = some a' := hd
    split at hd
    · rename_i q
      obtain ⟨q1, q⟩ := Bool.and_eq_true_iff.mp q
      obtain ⟨q2, q3⟩ := Bool.and_eq_true_iff.mp q
      have q2 := of_decide_eq_true q2
      have q3 := of_decide_eq_true q3
      subst q3
      obtain rfl := Option.some.inj hd
      obtain ⟨hD, hfst⟩ := hnew q1 (by omega)
      rw [← q2] at hD hfst
      have es := e5 rfl
      have es : s = ⟨(Sv i).B, (Sv i).A, (Sv i).g, 0, 2, 64, 16, []⟩ := es
      refine .inr ⟨q1, fun e he => ?_, q2, by rw [es]; rfl, hgoal, ⟨R.tn, ?_, fun j y hy => ?_, R.sp⟩, by show (a.l ++ [_]).length = _; rw [List.length_append]; rfl⟩
      · obtain ⟨j, hj, rfl⟩ := List.getElem_of_mem he
        have hj2 : j < a.l.length := by rw [← R.ln]; exact hj
        exact miss j hj2 (by omega) _ (List.getElem?_eq_getElem hj)
      · show (h.ends ++ [_]).length = (a.l ++ [_]).length
        rw [List.length_append, List.length_append, R.ln]
        rfl
      · have hy : (a.l ++ [X.lc false])[j]? = some y := hy
        show ∃ e2, (h.ends ++ [_])[j]? = some e2 ∧ _
        by_cases z : j < a.l.length
        · rw [List.getElem?_append_left z] at hy
          rw [List.getElem?_append_left (by rw [R.ln]; exact z)]
          exact R.en j y hy
        · rw [List.getElem?_append_right (by omega)] at hy
          have hj : j = a.l.length := by
            have := (List.getElem?_eq_some_iff.mp hy).1
            simp at this
            omega
          subst hj
          rw [Nat.sub_self] at hy
          obtain rfl := Option.some.inj hy
          rw [List.getElem?_append_right (by rw [R.ln]; exact Nat.le_refl _), R.ln, Nat.sub_self]
          refine ⟨_, rfl, ?_⟩
          rw [← q2, es]
          show RelX (Sv i) _ (E.arrive_segment (opened (Sv i).A (Sv i).B h.first false) _ 5).1
          rw [hfst, l40_3]
          exact .lc hD
    · cases hd
end
end M

set_option maxHeartbeats 400000
/-! The first of a list of objects goes; hosts hear; two hosts as one owned thing. -/
namespace Wr
open PySem PySem.Spec PyProof.Rows L2
/-- the first item, the same object, goes -/
theorem rm_head (l a : Addr) (us : List Value) (n : Nat) (hz : (Value.ref a :: us).toArray.size ≤ sizeLine) : Meets (Builtin.«list.remove» ⟨[.ref l, .ref a], []⟩)
    (fun _ R s => s.heap.get? l = some { cls := .type "list", dict := none, data := .seq (Value.ref a :: us).toArray n, slots := #[] } ∧ R (.ok (.ret .none)) { s with heap := s.heap.update l (Obj.mapSeq fun xs => xs.eraseIdxIfInBounds 0) }) := by
  intro prog w A R s h
  obtain ⟨hp, g, d, tk, os⟩ := s
  obtain ⟨hl, h⟩ := h
  wp_walk using AutoSeq1.wpAny_loadPart' hl
  refine ⟨plainId_quiet MeetsSeq.plain_remove_loop _, codeAny_builtin MeetsSeq.entry_remove_loop ?_⟩
  rw [Around.under_plainId MeetsSeq.plain_remove_loop _]
  have hz2 : ((Value.ref a :: us).toArray.eraseIdxIfInBounds 0).size ≤ sizeLine + 1 := Nat.le_trans (MeetsSeq.size_erased _ _) (Nat.le_succ_of_le hz)
  wp_walk using (wpAny_updateSeq hl rfl (hz := hz) (_hz' := hz2)), AutoSeq1.wpAny_loadPart' hl
  simpa using h
def rRem0 : V → List V → Hp → VK → Prop := fun x xs H Q => ∃ (l a : Addr) (rest : List V), x = .ref l ∧ xs = [.ref a] ∧ H l = some (.lst (.ref a :: rest)) ∧ Q .non (upd H l (.lst rest))
theorem mt_remove0 {X : Cx} : MtM X "list.remove" rRem0 := by
  intro pins s σ H x xs v us Q I rx rxs h
  obtain ⟨l, a, rest, rfl, rfl, hH, q⟩ := h
  cases rx
  obtain ⟨u, rfl, ru⟩ := rxs.one
  cases ru
  obtain ⟨z, its, n, r, hl, e⟩ := I.lstM hH
  have zl := r.length
  cases r with
  | cons rh rt =>
    cases rh
    rw [List.length_cons] at z zl
    rw [List.length_cons] at zl
    refine call_meets F.slot_list_remove ⟨_, e, rfl⟩ F.entry_list_remove (F.args_list_remove_2 _ _) (rm_head l a _ n (by rw [List.size_toArray, List.length_cons]; omega)) ⟨e, ?_⟩
    exact ⟨.non, _, I.lset (its' := _) (t' := s.toks) hH e (by rw [List.eraseIdxIfInBounds_toArray]; rfl) rt (by omega), rfl, q⟩
end Wr
namespace Lg
open PySem PySem.Spec PyProof.Rows L2 Wr
open A40 (Ho)
open A14 (Kd)
def subH : List (Int × List Addr) → Int → List (Int × List Addr)
  | [], _ => []
  | (k, qs) :: r, p => if (p == k) = true then (k, qs.tail) :: r else (k, qs) :: subH r p
theorem subH_len {p : Int} : ∀ {hs : List (Int × List Addr)}, (subH hs p).length = hs.length
  | [] => rfl
  | (k, qs) :: r => by
    unfold subH
    split
    · rfl
    · rw [List.length_cons, List.length_cons, subH_len]
theorem subH_fst {p : Int} : ∀ {hs : List (Int × List Addr)}, (subH hs p).map Prod.fst = hs.map Prod.fst
  | [] => rfl
  | (k, qs) :: r => by
    unfold subH
    split
    · rfl
    · rw [List.map_cons, List.map_cons, subH_fst]
section
variable {K : PySem.W.Frag} {F0 F H : Hp} {D : Ends} {ds : List (Option Da)} {rs rs1 rs2 r : List Rs} {t tz : TS} {te tv : TE} {tA : TA} {p p0 p1 q a el hd sp : Addr} {h h0 h1 : M.HostS} {as as' cs pre ls : List Addr} {hs : List (Int × List Addr)} {e : M.EndS} {port : Int} {b pas : Bool} {kd : Kd} {row : List Int} {i n : Nat}
theorem heard_sub {q : Addr} {qs : List Addr} : ∀ {ls : List Addr} {hs : List (Int × List Addr)}, ls.length = hs.length → hs.lookup port = some (q :: qs) →
    ∃ la, ((hs.map Prod.fst).zip ls).lookup port = some la ∧ (∀ r, Put (ol K la ((q :: qs).map Da.ref)) (ol K la (qs.map Da.ref)) (lsR K ls hs ++ r) (lsR K ls (subH hs port) ++ r)) ∧ ∀ r, ∃ rest, Pick (ol K la ((q :: qs).map Da.ref)) (lsR K ls hs ++ r) rest
  | [], [], _, h => by cases h
  | [], _ :: _, h, _ => by cases h
  | _ :: _, [], h, _ => by cases h
  | l :: ls, (k, qs0) :: hs, h, hq => by
    rw [List.lookup_cons] at hq
    show ∃ la, ((k, l) :: (hs.map Prod.fst).zip ls).lookup port = some la ∧ _
    rw [List.lookup_cons]
    by_cases z : (port == k) = true
    · rw [z] at hq ⊢
      obtain rfl := Option.some.inj hq
      refine ⟨l, rfl, fun r => ?_, fun r => ⟨_, .here⟩⟩
      have e : subH ((k, q :: qs) :: hs) port = (k, qs) :: hs := by unfold subH; rw [if_pos z]; rfl
      rw [e]
      exact .here
    · have z' : (port == k) = false := by simpa using z
      rw [z'] at hq ⊢
      obtain ⟨la, h1, h2, h3⟩ := heard_sub (by simpa using h) hq
      refine ⟨la, h1, fun r => ?_, fun r => ?_⟩
      · have e : subH ((k, qs0) :: hs) port = (k, qs0) :: subH hs port := by conv => lhs; unfold subH; rw [if_neg z]
        rw [e]
        exact .there (h2 r)
      · obtain ⟨rest, h4⟩ := h3 r
        exact ⟨_, .there h4⟩
/-- x.remove(its first) -/
theorem g_remF (ho : Ev K rs te ds (.ref p) rs1) (h : Ev K rs1 tv ds (.ref a) rs1) (hp : Put (ol K p ((a :: as).map Da.ref)) (ol K p (as.map Da.ref)) rs1 rs2) (k : G K F0 tz D ds rs2) :
    G K F0 (tSeq (tDrop (tBM K "list" rRem0 te (tCons tv tNil))) tz) D ds rs := fun σ F H s vs o => ho σ F H vs o _ fun x F1 H1 s1 dx o1 => by
  obtain ⟨m, hp1, hp2⟩ := hp.two
  rw [show x = V.ref p from dx]
  obtain ⟨xs, h1, o2⟩ := ol_out (ow_pick hp1 o1)
  refine ⟨.inl ⟨rfl, xs, .inl (.inl (pt_ok.mp (own_head o2)))⟩, ?_⟩
  refine h σ F1 H1 (vs.mono s1) o1 _ fun y F2 H2 s2 dy o3 => ?_
  obtain ⟨ys, h2, o4⟩ := ol_out (ow_pick hp1 o3)
  rw [show y = V.ref a from dy]
  have e := dvAll_ref.mp h2
  subst e
  refine ⟨p, a, as.map V.ref, rfl, rfl, pt_ok.mp (own_head o4), ?_⟩
  exact k σ F2 _ (s.trans (s1.trans s2)) (vs.mono (s1.trans s2)) (ow_back hp2 (ol_mk (own_upd o4) (dvAll_ref.mpr rfl)))
/-- the next of those who have come -/
def e_takenB (K : PySem.W.Frag) (l : List Da) (rs : List Rs) (f : Addr → Da) (g : Addr → List Rs) : Prop := ∃ p as hs h port r, l = [.ref p, .int port] ∧ rs = hostA K p as hs h :: r ∧
  ((hs.lookup port = some [] ∧ f = (fun _ => .non) ∧ g = fun _ => hostA K p as hs h :: r) ∨
   (∃ q qs, hs.lookup port = some (q :: qs) ∧ (q :: qs).length ≤ 1000 ∧ (∀ x, x ∈ q :: qs → ∃ (i : Nat) (e : M.EndS), as[i]? = some x ∧ h.ends[i]? = some e ∧ e.state = .opn) ∧ f = (fun _ => .ref q) ∧ g = fun _ => hostA K p as (subH hs port) h :: r))
/-- a row comes to a host -/
theorem g_arr {Sv : Nat → M.Sd} {ha ha' : Ho} {XX : XK} (ok : M.SvOk Sv n b) (hn : ha.l.length ≤ n) (hn4 : n ≤ 4) (R : M.RelH Sv h ha) (hal : as.length = ha.l.length) (hi : i < n) (hr : M.RowOf (Sv i).sw kd row) (hd : A40.arr pas b ha i kd = some ha')
    (hnew : pas = true → ha.l.length < n → (Sv ha.l.length).D = [] ∧ h.first = (Sv ha.l.length).f ∧ (hs.lookup (Sv ha.l.length).A).isSome = true) (hz : HsSz hs)
    (ho : Ev K (hostA K p as hs h :: r) te ds (.ref p) (hostA K p as hs h :: r)) (hA : EvA K (hostA K p as hs h :: r) tA ds [li row, .int 5] (hostA K p as hs h :: r))
    (k1 : ∀ h', M.RelH Sv h' ha' → ha'.l.length = ha.l.length → h'.first = h.first → G K F0 tz D ds (hostA K p as hs h' :: r))
    (k2 : ∀ q h', pas = true → ha.l.length < n → M.RelH Sv h' ha' → ha'.l.length = ha.l.length + 1 → h'.first = M.plus h.first 64000 → G K F0 tz D ds (hostA K p (as ++ [q]) (addH hs (Sv ha.l.length).A q) h' :: r)) :
    G K F0 (tSeq (tDrop (tMeth (cH K) "arrives" (SpE K (e_arrives K)) [] XX te tA)) tz) D ds (hostA K p as hs h :: r) := by
  obtain ⟨hright, hlen, hh⟩ := M.arr_rel ok hn R hi hr hd (fun h1 h2 => ⟨(hnew h1 h2).1, (hnew h1 h2).2.1⟩)
  obtain ⟨z1, z2, z3⟩ := R.sz ok hn hn4
  rcases hh with ⟨e, he, hhit, hfst, R', hl'⟩ | ⟨hp, hno, hie, hw, hgoal, R', hl'⟩
  · have hlt : i < as.length := by rw [hal, ← R.ln]; exact (List.getElem?_eq_some_iff.mp he).1
    exact g_dropX (methAE (h := h) ho .here (fun _ _ _ _ => by kernel_rfl) hA ⟨p, as, hs, h, row, 5, r, rfl, hlen, z3, hz, z2, rfl, .inr ⟨hright, rfl, .inr (.inr ⟨i, as[i], e, List.getElem?_eq_getElem hlt, he, hhit, hfst, rfl⟩)⟩⟩) (fun q => k1 _ R' hl' rfl)
  · subst hie
    obtain ⟨n1, n2, n3⟩ := hnew hp hi
    refine g_dropX (methAE (h := h) ho .here (fun _ _ _ _ => by kernel_rfl) hA ⟨p, as, hs, h, row, 5, r, rfl, hlen, z3, hz, z2, rfl, .inr ⟨hright, rfl, .inl ⟨hno, by rw [hw, hgoal, n3]; rfl, rfl⟩⟩⟩) (fun q => ?_)
    have := k2 q _ hp hi R' hl' rfl
    rw [← hgoal] at this
    exact this
/-! ### two hosts -/
end
end Lg
namespace M
def gs (f : Int) : Nat → Int
  | 0 => f
  | i + 1 => plus (gs f i) 64000
end M
namespace Lg
open PySem PySem.Spec PyProof.Rows L2 Wr
open A40 (Ho)
open A14 (Kd)
structure Nt where
  n : Nat
  S : Nat → M.Sd
  qs : List Addr → List (Int × List Addr)
  f0 : Int
structure NtOk (N : Nt) (b : Bool) (pre : List Addr) : Prop where
  n4 : N.n ≤ 4
  ok : M.SvOk N.S N.n b
  hz : ∀ as, as.length ≤ N.n → HsSz (N.qs as)
  add : ∀ as q, pre.length ≤ as.length → as.length < N.n → addH (N.qs as) (N.S as.length).B q = N.qs (as ++ [q]) ∧ ((N.qs as).lookup (N.S as.length).B).isSome = true ∧ (N.S as.length).D' = [] ∧ M.gs N.f0 as.length = (N.S as.length).g
structure NetP (N : Nt) (pre as : List Addr) (h0 h1 : M.HostS) (a0 a1 : Ho) : Prop where
  pre : ∃ t, as = pre ++ t
  len : as.length = a0.l.length
  l0 : a0.l.length ≤ N.n
  l1 : a1.l.length = N.n
  R0 : M.RelH (fun i => (N.S i).sw) h0 a0
  R1 : M.RelH N.S h1 a1
  fst : h0.first = M.gs N.f0 a0.l.length
def netR (K : PySem.W.Frag) (p0 p1 : Addr) (N : Nt) (cs pre : List Addr) (a0 a1 : Ho) : Rs := ⟨fun F => exk fun (x : List Addr × M.HostS × M.HostS) => sep (pur (NetP N pre x.1 x.2.1 x.2.2 a0 a1) :: [hostA K p0 x.1 (N.qs x.1) x.2.1, hostA K p1 cs [] x.2.2].map fun r => r.ck F), fun F F' H s q => by
  obtain ⟨x, q⟩ := exk_ok.mp q
  obtain ⟨h1, o⟩ := own_pur.mp (sep_ok.mp q)
  exact exk_ok.mpr ⟨x, sep_ok.mpr (own_pur.mpr ⟨h1, own_mo s o⟩)⟩⟩
section
variable {K : PySem.W.Frag} {F0 F H : Hp} {D : Ends} {ds : List (Option Da)} {rs r : List Rs} {t : TS} {p0 p1 : Addr} {N : Nt} {cs pre as : List Addr} {a0 a1 : Ho} {h0 h1 : M.HostS}
theorem net_open (o : Ow F (netR K p0 p1 N cs pre a0 a1 :: r) H) : ∃ as h0 h1, NetP N pre as h0 h1 a0 a1 ∧ Ow F (hostA K p0 as (N.qs as) h0 :: hostA K p1 cs [] h1 :: r) H := by
  obtain ⟨⟨as, h0, h1⟩, o2⟩ := own_ex.mp (own_swap o)
  obtain ⟨hp, o3⟩ := own_pur.mp (own_sep.mp o2)
  refine ⟨as, h0, h1, hp, ?_⟩
  have key : List.Perm ([(hostA K p0 as (N.qs as) h0).ck F, (hostA K p1 cs [] h1).ck F] ++ fz F :: r.map fun r => r.ck F) (fz F :: ([(hostA K p0 as (N.qs as) h0).ck F, (hostA K p1 cs [] h1).ck F] ++ r.map fun r => r.ck F)) := List.perm_middle
  exact own_perm key o3
theorem net_close (hp : NetP N pre as h0 h1 a0 a1) (o : Ow F (hostA K p0 as (N.qs as) h0 :: hostA K p1 cs [] h1 :: r) H) : Ow F (netR K p0 p1 N cs pre a0 a1 :: r) H := by
  refine own_swap (own_ex.mpr ⟨(as, h0, h1), own_sep.mpr (own_pur.mpr ⟨hp, ?_⟩)⟩)
  have key : List.Perm ([(hostA K p0 as (N.qs as) h0).ck F, (hostA K p1 cs [] h1).ck F] ++ fz F :: r.map fun r => r.ck F) (fz F :: ([(hostA K p0 as (N.qs as) h0).ck F, (hostA K p1 cs [] h1).ck F] ++ r.map fun r => r.ck F)) := List.perm_middle
  exact own_perm key.symm o
theorem g_openN (k : ∀ as h0 h1, NetP N pre as h0 h1 a0 a1 → G K F0 t D ds (hostA K p0 as (N.qs as) h0 :: hostA K p1 cs [] h1 :: r)) : G K F0 t D ds (netR K p0 p1 N cs pre a0 a1 :: r) := fun σ F H s vs o => by
  obtain ⟨as, h0, h1, hp, o2⟩ := net_open o
  exact k as h0 h1 hp σ F H s vs o2
theorem g_closeN (hp : NetP N pre as h0 h1 a0 a1) (k : G K F0 t D ds (netR K p0 p1 N cs pre a0 a1 :: r)) : G K F0 t D ds (hostA K p0 as (N.qs as) h0 :: hostA K p1 cs [] h1 :: r) := fun σ F H s vs o => k σ F H s vs (net_close hp o)
def R_flow (K : PySem.W.Frag) (l : List Da) (rs : List Rs) (d : Da) (rs' : List Rs) : Prop := ∃ p0 p1 N b cs pre a0 a1 b0 b1 nu r, l = [.list [.ref p0, .ref p1], .int nu] ∧ NtOk N b pre ∧ cs.length = N.n ∧ 0 ≤ nu ∧ A40.flow b (nu % 4).toNat 40 0 a0 a1 = some (b0, b1) ∧
  rs = netR K p0 p1 N cs pre a0 a1 :: r ∧ d = .bl true ∧ rs' = netR K p0 p1 N cs pre b0 b1 :: r
end
end Lg

set_option maxHeartbeats 400000
/-! Two hosts: the flow, half by half; calls on the ends of a host. -/
namespace A40
open A14 (Kd)
theorem flow_step {b : Bool} {d f k : Nat} {h0 h1 : Ho} {x : Ho × Ho} (h : flow b d (f + 1) k h0 h1 = some x) : ∃ a0 a1 s0 c0 c1 s1, half false b (decide ((d + k) % 4 = 0)) h0 h1 = some (a0, a1, s0) ∧ half true b (decide ((d + k) % 4 = 0)) a1 a0 = some (c1, c0, s1) ∧
    (if (s0 && s1) = true then x = (c0, c1) else flow b d f (k + 1) c0 c1 = some x) := by
  unfold flow at h
  split at h
  · cases h
  · rename_i a0 a1 s0 e1
    split at h
    · cases h
    · rename_i c1 c0 s1 e2
      refine ⟨a0, a1, s0, c0, c1, s1, e1, e2, ?_⟩
      split at h
      · rename_i q
        rw [if_pos q]
        exact (Option.some.inj h).symm
      · rename_i q
        rw [if_neg q]
        exact h
theorem half_cases {pas b dup s : Bool} {a o a' o' : Ho} (h : half pas b dup a o = some (a', o', s)) :
    (snds b a = (a', none) ∧ a' = a ∧ o' = o ∧ s = true) ∨ ∃ i kd o1, snds b a = (a', some (i, kd)) ∧ arr pas b o i kd = some o1 ∧ s = false ∧ (if dup = true then arr pas b o1 i kd = some o' else o' = o1) := by
  unfold half at h
  split at h
  · rename_i a2 e
    obtain ⟨rfl, h2⟩ := Prod.mk.inj (Option.some.inj h)
    obtain ⟨rfl, rfl⟩ := Prod.mk.inj h2
    exact .inl ⟨e, M.go_none e, rfl, rfl⟩
  · rename_i a2 i kd e
    split at h
    · cases h
    · rename_i o1 e1
      split at h
      · rename_i q
        split at h
        · cases h
        · rename_i o2 e2
          obtain ⟨rfl, h2⟩ := Prod.mk.inj (Option.some.inj h)
          obtain ⟨rfl, rfl⟩ := Prod.mk.inj h2
          exact .inr ⟨i, kd, o1, e, e1, rfl, by rw [if_pos q]; exact e2⟩
      · rename_i q
        obtain ⟨rfl, h2⟩ := Prod.mk.inj (Option.some.inj h)
        obtain ⟨rfl, rfl⟩ := Prod.mk.inj h2
        exact .inr ⟨i, kd, _, e, e1, rfl, by rw [if_neg q]⟩
end A40
namespace Lg
open PySem PySem.Spec PyProof.Rows L2 Wr
open A40 (Ho)
open A14 (Kd)
section
variable {K : PySem.W.Frag} {F0 F H : Hp} {D : Ends} {ds : List (Option Da)} {rs rs1 rs2 r rest : List Rs} {t tz : TS} {te tb tv : TE} {tA : TA} {p p0 p1 q a : Addr} {h h0 h1 : M.HostS} {as cs pre : List Addr} {hs : List (Int × List Addr)} {e e' : M.EndS} {b : Bool} {kd : Kd} {row : List Int} {i n : Nat} {N : Nt} {a0 a1 a0' a1' : Ho} {XX : XK} {l : List Da} {d : Da} {ii : Nat}
structure At0 (N : Nt) (pre as : List Addr) (h0 : M.HostS) (a0 : Ho) : Prop where
  pre : ∃ t, as = pre ++ t
  len : as.length = a0.l.length
  l0 : a0.l.length ≤ N.n
  R0 : M.RelH (fun i => (N.S i).sw) h0 a0
  fst : h0.first = M.gs N.f0 a0.l.length
theorem NetP.at0 (P : NetP N pre as h0 h1 a0 a1) : At0 N pre as h0 a0 := ⟨P.pre, P.len, P.l0, P.R0, P.fst⟩
theorem At0.net (P : At0 N pre as h0 a0) (l1 : a1.l.length = N.n) (R1 : M.RelH N.S h1 a1) : NetP N pre as h0 h1 a0 a1 := ⟨P.pre, P.len, P.l0, l1, P.R0, R1, P.fst⟩
/-- the one that hears new calls -/
theorem g_arr0 (ok : NtOk N b pre) (P : At0 N pre as h0 a0) (hi : i < N.n) (hr : M.RowOf (N.S i) kd row) (hd : A40.arr true b a0 i kd = some a0')
    (ho : Ev K (hostA K p as (N.qs as) h0 :: r) te ds (.ref p) (hostA K p as (N.qs as) h0 :: r)) (hA : EvA K (hostA K p as (N.qs as) h0 :: r) tA ds [li row, .int 5] (hostA K p as (N.qs as) h0 :: r))
    (k : ∀ as' h', At0 N pre as' h' a0' → G K F0 tz D ds (hostA K p as' (N.qs as') h' :: r)) :
    G K F0 (tSeq (tDrop (tMeth (cH K) "arrives" (SpE K (e_arrives K)) [] XX te tA)) tz) D ds (hostA K p as (N.qs as) h0 :: r) := by
  obtain ⟨t, ht⟩ := P.pre
  have hpl : pre.length ≤ as.length := by rw [ht, List.length_append]; exact Nat.le_add_right _ _
  refine g_arr (Sv := fun i => (N.S i).sw) ok.ok.sw P.l0 ok.n4 P.R0 P.len hi hr hd (fun _ hlt => ?_) (ok.hz as (by rw [P.len]; exact P.l0)) ho hA (fun h' R' l' f' => k as h' ⟨P.pre, by rw [P.len, l'], by rw [l']; exact P.l0, R', by rw [f', P.fst, l']⟩) (fun q h' _ hlt R' l' f' => ?_)
  · obtain ⟨z1, z2, z3, z4⟩ := ok.add as 0 hpl (by rw [P.len]; exact hlt)
    rw [P.len] at z2 z3 z4
    exact ⟨z3, by rw [P.fst, z4]; rfl, z2⟩
  · obtain ⟨z1, z2, z3, z4⟩ := ok.add as q hpl (by rw [P.len]; exact hlt)
    rw [P.len] at z1
    have z1 : addH (N.qs as) ((fun i => (N.S i).sw) a0.l.length).A q = N.qs (as ++ [q]) := z1
    rw [z1]
    exact k _ h' ⟨⟨t ++ [q], by rw [ht, List.append_assoc]⟩, by rw [List.length_append, P.len, l']; rfl, by rw [l']; exact hlt, R', by rw [f', P.fst, l']; rfl⟩
theorem g_arr01 (ok : NtOk N b pre) (P : At0 N pre as h0 a0) (hi : i < N.n) (hr : M.RowOf (N.S i) kd row) (hd : A40.arr true b a0 i kd = some a0')
    (ho : Ev K (hostA K p as (N.qs as) h0 :: r) te ds (.ref p) (hostA K p as (N.qs as) h0 :: r)) (hA : EvA K (hostA K p as (N.qs as) h0 :: r) tA ds [li row, .int 5] (hostA K p as (N.qs as) h0 :: r))
    (k : ∀ as' h', At0 N pre as' h' a0' → G K F0 tNext D ds (hostA K p as' (N.qs as') h' :: r)) :
    G K F0 (tDrop (tMeth (cH K) "arrives" (SpE K (e_arrives K)) [] XX te tA)) D ds (hostA K p as (N.qs as) h0 :: r) := g_arr0 (tz := tNext) ok P hi hr hd ho hA k
/-- the one that calls -/
theorem g_arr2 (ok : NtOk N b pre) (hcs : cs.length = N.n) (l1 : a1.l.length = N.n) (R1 : M.RelH N.S h1 a1) (hi : i < N.n) (hr : M.RowOf (N.S i).sw kd row) (hd : A40.arr false b a1 i kd = some a1')
    (ho : Ev K (hostA K p cs [] h1 :: r) te ds (.ref p) (hostA K p cs [] h1 :: r)) (hA : EvA K (hostA K p cs [] h1 :: r) tA ds [li row, .int 5] (hostA K p cs [] h1 :: r))
    (k : ∀ h', a1'.l.length = N.n → M.RelH N.S h' a1' → G K F0 tz D ds (hostA K p cs [] h' :: r)) :
    G K F0 (tSeq (tDrop (tMeth (cH K) "arrives" (SpE K (e_arrives K)) [] XX te tA)) tz) D ds (hostA K p cs [] h1 :: r) :=
  g_arr (Sv := N.S) ok.ok (Nat.le_of_eq l1) ok.n4 R1 (hcs.trans l1.symm) hi hr hd (fun z => nomatch z) (fun _ _ z => by cases z) ho hA (fun h' R' l' _ => k h' (l'.trans l1) R') (fun _ _ z => nomatch z)
theorem g_arr21 (ok : NtOk N b pre) (hcs : cs.length = N.n) (l1 : a1.l.length = N.n) (R1 : M.RelH N.S h1 a1) (hi : i < N.n) (hr : M.RowOf (N.S i).sw kd row) (hd : A40.arr false b a1 i kd = some a1')
    (ho : Ev K (hostA K p cs [] h1 :: r) te ds (.ref p) (hostA K p cs [] h1 :: r)) (hA : EvA K (hostA K p cs [] h1 :: r) tA ds [li row, .int 5] (hostA K p cs [] h1 :: r))
    (k : ∀ h', a1'.l.length = N.n → M.RelH N.S h' a1' → G K F0 tNext D ds (hostA K p cs [] h' :: r)) :
    G K F0 (tDrop (tMeth (cH K) "arrives" (SpE K (e_arrives K)) [] XX te tA)) D ds (hostA K p cs [] h1 :: r) := g_arr2 (tz := tNext) ok hcs l1 R1 hi hr hd ho hA k
/-- a call on an end of a host -/
theorem endA {f : M.EndS → List Da → M.EndS → Da → Prop} {X : XK} (h2 : EvA K (hostA K p as hs h :: r) tA ds (.ref q :: l) (hostA K p as hs h :: r)) (hq : as[i]? = some q) (he : h.ends[i]? = some e) (hf : f e l e' d) :
    Ev K (hostA K p as hs h :: r) (tCall (SpG K (RE K f)) [] X tA) ds d (hostA K p as hs (M.hset h i e') :: r) := fun σ F H vs o Q k =>
  h2 σ F H vs o _ fun ws F1 H1 s1 dw o1 => by
    obtain ⟨el, hd, sp, ls, hl, hl2, o2⟩ := hostA_open o1
    have pt := put_nth (K := K) (e' := e') (r := lsR K ls hs ++ r) hq he
    have hp : Put (endR K q e) (endR K q e') (openA K p el hd sp as ls hs h r) (openA K p el hd sp as ls hs (M.hset h i e') r) := .there (.there (.there (.there pt)))
    obtain ⟨m, hp1, hp2⟩ := hp.two
    exact ⟨F1, _, _, d, _, by rw [List.append_nil]; exact dw, ow_pick hp1 o2, ⟨q, e, l, m, e', rfl, rfl, hf, rfl⟩, fun v F2 H2 s2 dv o3 => k v F2 H2 (s1.trans s2) dv
      (hostA_close (h := M.hset h i e') (by show as.length = (h.ends.set i e').length; rw [List.length_set]; exact hl) hl2 (ow_back hp2 o3))⟩
theorem hset_same (he : h.ends[i]? = some e) : M.hset h i e = h := by
  show ({ h with ends := h.ends.set i e } : M.HostS) = h
  rw [M.set_same he]
/-- .. that leaves it as it is -/
theorem endA0 {f : M.EndS → List Da → M.EndS → Da → Prop} {X : XK} (h2 : EvA K (hostA K p as hs h :: r) tA ds (.ref q :: l) (hostA K p as hs h :: r)) (hq : as[i]? = some q) (he : h.ends[i]? = some e) (hf : f e l e d) :
    Ev K (hostA K p as hs h :: r) (tCall (SpG K (RE K f)) [] X tA) ds d (hostA K p as hs h :: r) := by
  have := endA (X := X) h2 hq he hf
  rw [hset_same he] at this
  exact this
/-- x.append(e), e new -/
theorem g_appX {f : Addr → Da} {g g' : Addr → List Rs} (ho : Ev K rs te ds (.ref p) rs) (hp0 : Pick (ol K p l) rs rest) (h2 : EvX K rs tv ds f g) (hp : ∀ a, Put (ol K p l) (ol K p (l ++ [f a])) (g a) (g' a)) (hz : l.length < 100000) (k : ∀ a, G K F0 tz D ds (g' a)) :
    G K F0 (tSeq (tDrop (tBM K "list" rAppend te (tCons tv tNil))) tz) D ds rs := fun σ F H s vs o => ho σ F H vs o _ fun x F1 H1 s1 dx o1 => by
  rw [show x = V.ref p from dx]
  obtain ⟨xs, h1, o2⟩ := ol_out (ow_pick hp0 o1)
  refine ⟨.inl ⟨rfl, xs, .inl (.inl (pt_ok.mp (own_head o2)))⟩, ?_⟩
  refine h2 σ F1 H1 (vs.mono s1) o1 _ fun a y F2 H2 s2 dy o3 => ?_
  obtain ⟨m, hp1, hp2⟩ := (hp a).two
  obtain ⟨ys, h2, o4⟩ := ol_out (ow_pick hp1 o3)
  refine ⟨p, ys, y, rfl, rfl, pt_ok.mp (own_head o4), by rw [dvAll_len h2]; exact Evl.sz_lt hz, ?_⟩
  exact k a σ F2 _ (s.trans (s1.trans s2)) (vs.mono (s1.trans s2)) (ow_back hp2 (ol_mk (own_upd o4) (dvAll_app h2 ⟨y, [], rfl, dy, rfl⟩)))
theorem g_appX1 {f : Addr → Da} {g g' : Addr → List Rs} (ho : Ev K rs te ds (.ref p) rs) (hp0 : Pick (ol K p l) rs rest) (h2 : EvX K rs tv ds f g) (hp : ∀ a, Put (ol K p l) (ol K p (l ++ [f a])) (g a) (g' a)) (hz : l.length < 100000) (k : ∀ a, G K F0 tNext D ds (g' a)) :
    G K F0 (tDrop (tBM K "list" rAppend te (tCons tv tNil))) D ds rs := g_appX (tz := tNext) ho hp0 h2 hp hz k
theorem g_appF1 (ho : Ev K rs te ds (.ref p) rs1) (h : Ev K rs1 tv ds d rs1) (hp : Put (ol K p l) (ol K p (l ++ [d])) rs1 rs2) (hz : l.length < 100000) (k : G K F0 tNext D ds rs2) :
    G K F0 (tDrop (tBM K "list" rAppend te (tCons tv tNil))) D ds rs := g_appF (tz := tNext) ho h hp hz k
/-- (e, x), e new -/
theorem tupX2 {f : Addr → Da} {g : Addr → List Rs} (h1 : EvX K rs te ds f g) (h2 : ∀ a, Ev K (g a) tb ds d (g a)) : EvX K rs (tTup (tCons te (tCons tb tNil))) ds (fun a => .tup [f a, d]) g := fun σ F H vs o Q k =>
  h1 σ F H vs o _ fun a v F1 H1 s1 dv o1 => h2 a σ F1 H1 (vs.mono s1) o1 _ fun w F2 H2 s2 dw o2 => ⟨Evl.sz_of (show 2 ≤ 100000 by decide), fun b hb => by
    obtain ⟨o3, x⟩ := ow_new (u := .tup [v, w]) o2 hb
    exact k a _ _ _ ((s1.trans s2).trans x) ⟨b, [v, w], rfl, .inl (.inl upd_same), v, _, rfl, Dv.mono (s2.trans x) _ _ dv, w, _, rfl, Dv.mono x _ _ dw, rfl⟩ o3⟩
theorem g_lstX2 {g1 : Addr → List Rs} {g2 : Addr → Addr → List Rs} {t1 t2 : TE} (h1 : EvX K rs t1 ds (fun p => .ref p) g1) (h2 : ∀ p, EvX K (g1 p) t2 ds (fun q => .ref q) (g2 p)) (k : ∀ p q a, G K F0 tz D (ds.set ii (some (.ref a))) (ol K a [.ref p, .ref q] :: g2 p q)) :
    G K F0 (tSeq (tAsg (tLst (tCons t1 (tCons t2 tNil))) (gName ii)) tz) D ds rs := fun σ F H s vs o =>
  h1 σ F H vs o _ fun p v F1 H1 s1 dv o1 => h2 p σ F1 H1 (vs.mono s1) o1 _ fun q w F2 H2 s2 dw o2 => ⟨Evl.sz_of (show 2 ≤ 100000 by decide), fun a ha => by
    rw [show v = V.ref p from dv, show w = V.ref q from dw]
    exact k p q a _ F2 _ (s.trans (s1.trans s2)) ((vs.mono (s1.trans s2)).set rfl) (ol_mk (own_new o2 ha) ⟨_, _, rfl, rfl, _, _, rfl, rfl, rfl⟩)⟩
end
end Lg

set_option maxHeartbeats 400000
/-! Two hosts: the callers, the queues, what is written and read. -/
namespace M
open A14 (Kd Of Ab Ph dlv)
open A40 (X Ho)
/-! what calls -/
def hC (mine goal : Nat → Int) (f : Int) : Nat → HostS
  | 0 => hnew f
  | i + 1 => hadd (hfirst (hC mine goal f i)) (opened (mine i) (goal i) (hC mine goal f i).first true)
section
variable {mine goal : Nat → Int} {f : Int} {i j n : Nat}
theorem hC_first : (hC mine goal f i).first = gs f i := by
  induction i with
  | zero => rfl
  | succ i ih => show plus (hC mine goal f i).first 64000 = plus (gs f i) 64000; rw [ih]
theorem hC_len : (hC mine goal f i).ends.length = i := by
  induction i with
  | zero => rfl
  | succ i ih =>
    show ((hC mine goal f i).ends ++ [_]).length = i + 1
    rw [List.length_append, ih]
    rfl
theorem hC_at (h : j < i) : (hC mine goal f i).ends[j]? = some (opened (mine j) (goal j) (gs f j) true) := by
  induction i with
  | zero => omega
  | succ i ih =>
    show ((hC mine goal f i).ends ++ [opened (mine i) (goal i) (hC mine goal f i).first true])[j]? = _
    by_cases z : j < i
    · rw [List.getElem?_append_left (by rw [hC_len]; exact z)]
      exact ih z
    · have : j = i := by omega
      subst this
      rw [List.getElem?_append_right (by rw [hC_len]; exact Nat.le_refl _), hC_len, Nat.sub_self, hC_first]
      rfl
theorem hC_turn : (hC mine goal f i).turn = 0 ∧ (hC mine goal f i).spare = opened 0 0 f false := by
  induction i with
  | zero => exact ⟨rfl, rfl⟩
  | succ i ih => exact ih
theorem hC_free (hm : ∀ a b, mine a = mine b → a = b) : ∀ e ∈ (hC mine goal f i).ends, hit (mine i) (goal i) e = false := fun e he => by
  obtain ⟨j, hj, rfl⟩ := List.getElem_of_mem he
  have hj2 : j < i := by rw [hC_len] at hj; exact hj
  have h1 := hC_at (mine := mine) (goal := goal) (f := f) hj2
  rw [List.getElem?_eq_getElem hj] at h1
  rw [Option.some.inj h1]
  unfold hit
  have : ¬ mine j = mine i := fun z => by have := hm _ _ z; omega
  show (decide (mine j = mine i) && _) = false
  rw [decide_eq_false this]
  rfl
theorem gs_rg (hf : 0 ≤ f ∧ f ≤ 4294967295) : 0 ≤ gs f i ∧ gs f i ≤ 4294967295 := by
  cases i with
  | zero => exact hf
  | succ i => exact plus_rg _ _
theorem hC_rel {Sv : Nat → Sd} (hS : ∀ i, i < n → (Sv i).A = mine i ∧ (Sv i).B = goal i ∧ (Sv i).f = gs f i ∧ (Sv i).D = []) : RelH Sv (hC mine goal f n) (A40.init n) := by
  refine ⟨hC_turn.1, by rw [hC_len]; exact (List.length_replicate).symm, fun i x hx => ?_, ⟨f, hC_turn.2⟩⟩
  have hx : (List.replicate n X.c0)[i]? = some x := hx
  have hi : i < n := by have := (List.getElem?_eq_some_iff.mp hx).1; rw [List.length_replicate] at this; exact this
  rw [List.getElem?_replicate, if_pos hi] at hx
  obtain rfl := Option.some.inj hx
  refine ⟨_, hC_at hi, ?_⟩
  obtain ⟨h1, h2, h3, h4⟩ := hS i hi
  rw [← h1, ← h2, ← h3]
  exact .c0 h4
end
/-! what is written -/
theorem rowE {A B f g : Int} {D D' : List Int} {s : Of} {e : EndS} {now : Int} (h8 : D.length ≤ 16) (h : RelE ⟨A, B, f, g, [], []⟩ now s e) : RelE ⟨A, B, f, g, D, D'⟩ now s (E.write e D).1 := by
  have e1 : mn (D.length : Int) 64 = (D.length : Int) := by unfold mn; split <;> omega
  have e2 : sl D none (some (D.length : Int)) = D := by rw [sl_to, List.take_of_length_le (Nat.le_refl _)]
  cases h with
  | @ss fi si wa tr t b =>
    have q : E.write (eSS A B f [] si wa tr) D = (eSS A B f D si wa tr, (D.length : Int)) := by simp [E.write, E.inS, e1, e2]
    rw [q]
    exact .ss (S := ⟨A, B, f, g, D, D'⟩) t b
  | @sc fi os oa si wa tr t b =>
    have q : E.write (eSC A B f g [] os oa si wa tr) D = (eSC A B f g D os oa si wa tr, (D.length : Int)) := by simp [E.write, E.inS, e1, e2]
    rw [q]
    exact .sc (S := ⟨A, B, f, g, D, D'⟩) t b
  | @op dn rv fi os os' oa u x r w t tb si wa tr out pl hw tm hd hr =>
    rcases hd with ⟨rfl, rfl, rfl, rfl⟩ | ⟨_, _, _, _, q⟩ | ⟨_, _, _, _, q⟩
    · rcases hr with ⟨rfl, rfl, rfl⟩ | ⟨_, _, q, _⟩
      · have q : E.write (eOP A B f g 1 1 1 w t tb [] Pile0 os' oa si wa tr) D = (eOP A B f g 1 1 1 w t tb D Pile0 os' oa si wa tr, (D.length : Int)) := by simp [E.write, E.inS, e1, e2]
        show RelE _ now _ (E.write (eOP A B f g 1 1 1 w t tb [] Pile0 os' oa si wa tr) D).1
        rw [q]
        exact .op (S := ⟨A, B, f, g, D, D'⟩) hw tm (.inl ⟨rfl, rfl, rfl, rfl⟩) (.inl ⟨rfl, rfl, rfl⟩)
      · exact absurd q (Nat.not_succ_le_zero 0)
    · exact absurd q (Nat.not_succ_le_zero 0)
    · exact absurd q (Nat.not_succ_le_zero 0)
theorem write40 {A B f g : Int} {D D' : List Int} {x : X} {e : EndS} (h8 : D.length ≤ 16) (hx : A40.rdy x = true) (h : RelX ⟨A, B, f, g, [], []⟩ x e) : RelX ⟨A, B, f, g, D, D'⟩ x (E.write e D).1 := by
  cases h with
  | c0 h => cases hx
  | lc h => cases hx
  | of hf h => exact .of hf (rowE h8 h)
theorem rdy_open {S : Sd} {x : X} {e : EndS} (hx : A40.rdy x = true) (h : RelX S x e) : e.state = .opn := by
  cases h with
  | c0 h => cases hx
  | lc h => cases hx
  | of hf h =>
    unfold A40.rdy at hx
    cases h with
    | ss t b => simp at hx
    | sc t b => simp at hx
    | op hw tm hd hr => rfl
theorem read40 {S : Sd} {x : X} {e : EndS} (ok : SdOk S) (hx : A40.fin x = true) (h : RelX S x e) : (E.read e 99).2 = S.D' := by
  have hD' := ok.D'
  have key : ∀ l : List Int, l.length ≤ 16 → sl l none (some 99) = l := fun l hl => by
    rw [show (99 : Int) = ((99 : Nat) : Int) from rfl, sl_to, List.take_of_length_le (by omega)]
  have rd : ∀ e : EndS, e.pile.held.length ≤ 16 → (E.read e 99).2 = e.pile.held := fun e he => by
    unfold E.read
    split
    · exact key _ he
    · exact key _ he
  cases h with
  | c0 h => cases hx
  | lc h => cases hx
  | of hf h =>
    unfold A40.fin at hx
    cases h with
    | ss t b => simp at hx
    | sc t b => simp at hx
    | @op dn rv fi os os' oa u x r w t tb si wa tr out pl hw tm hd hr =>
      have hv : rv = true := by simpa using hx
      rcases hr with ⟨q, _, rfl⟩ | ⟨_, _, h1, ea, _, rfl⟩
      · rw [q] at hv; cases hv
      · exact rd _ hD'
/-- some of the ends are changed, by a list of places -/
structure Chg (π : List Nat) (g : Nat → EndS → EndS) (h h' : HostS) (k : Nat) : Prop where
  tn : h'.turn = h.turn
  sp : h'.spare = h.spare
  fs : h'.first = h.first
  ln : h'.ends.length = h.ends.length
  at_ : ∀ j i e, π[j]? = some i → h.ends[i]? = some e → h'.ends[i]? = some (if j < k then g j e else e)
theorem Chg.start {π : List Nat} {g : Nat → EndS → EndS} {h : HostS} : Chg π g h h 0 := ⟨rfl, rfl, rfl, rfl, fun j i e _ he => by rw [if_neg (Nat.not_lt_zero _)]; exact he⟩
theorem Chg.step {π : List Nat} {g : Nat → EndS → EndS} {h h' : HostS} {k i : Nat} {e : EndS} (hn : π.Nodup) (c : Chg π g h h' k) (hi : π[k]? = some i) (he : h.ends[i]? = some e) : h'.ends[i]? = some e ∧ Chg π g h (hset h' i (g k e)) (k + 1) := by
  have h1 := c.at_ k i e hi he
  rw [if_neg (Nat.lt_irrefl _)] at h1
  refine ⟨h1, c.tn, c.sp, c.fs, by show (h'.ends.set _ _).length = _; rw [List.length_set]; exact c.ln, fun j i2 e2 hj he2 => ?_⟩
  show (h'.ends.set i (g k e))[i2]? = _
  by_cases z : i = i2
  · subst z
    have hjk : j = k := by
      obtain ⟨q1, q2⟩ := List.getElem?_eq_some_iff.mp hj
      obtain ⟨q3, q4⟩ := List.getElem?_eq_some_iff.mp hi
      exact (List.getElem_inj hn).mp (q2.trans q4.symm)
    subst hjk
    rw [he] at he2
    obtain rfl := Option.some.inj he2
    rw [List.getElem?_set_self (List.getElem?_eq_some_iff.mp h1).1, if_pos (Nat.lt_succ_self _)]
  · rw [List.getElem?_set_ne z, c.at_ j i2 e2 hj he2]
    have hjk : j ≠ k := fun q => by
      subst q
      rw [hi] at hj
      exact z (Option.some.inj hj)
    by_cases q : j < k
    · rw [if_pos q, if_pos (by omega)]
    · rw [if_neg q, if_neg (by omega)]
/-- all of them are written to -/
theorem Chg.rel {π : List Nat} {h h' : HostS} {a : Ho} {S1 S2 : Nat → Sd} {Dk : Nat → List Int} {n : Nat} (c : Chg π (fun j e => (E.write e (Dk j)).1) h h' n) (R : RelH S1 h a) (hl : a.l.length = n) (hr : ∀ x, x ∈ a.l → A40.rdy x = true)
    (hπ : ∀ i, i < n → ∃ j, j < n ∧ π[j]? = some i ∧ (Dk j).length ≤ 16 ∧ S1 i = ⟨(S2 i).A, (S2 i).B, (S2 i).f, (S2 i).g, [], []⟩ ∧ (S2 i).D = Dk j) : RelH S2 h' a := by
  refine ⟨c.tn.trans R.tn, c.ln.trans R.ln, fun i x hx => ?_, by obtain ⟨f, hf⟩ := R.sp; exact ⟨f, c.sp.trans hf⟩⟩
  obtain ⟨e, h1, h2⟩ := R.en i x hx
  obtain ⟨j, hj, hp, hD, q1, q2⟩ := hπ i (by rw [← hl]; exact (List.getElem?_eq_some_iff.mp hx).1)
  have h3 := c.at_ j i e hp h1
  rw [if_pos hj] at h3
  refine ⟨_, h3, ?_⟩
  rw [q1] at h2
  have h4 := write40 (D := Dk j) (D' := (S2 i).D') hD (hr x (List.mem_of_getElem? hx)) h2
  rw [← q2] at h4 ⊢
  exact h4
/-! the order -/
def idx (goal : Nat → Int) (n : Nat) (pt : Int) : List Nat := (List.range n).filter fun i => decide (goal i = pt)
def ord (goal : Nat → Int) (n : Nat) (pa pb : Int) : List Nat := idx goal n pa ++ idx goal n pb
section
variable {goal : Nat → Int} {n : Nat} {pa pb : Int}
theorem idx_mem {i : Nat} : i ∈ idx goal n pa ↔ i < n ∧ goal i = pa := by
  unfold idx
  simp
theorem ord_nodup (h : pa ≠ pb) : (ord goal n pa pb).Nodup := by
  unfold ord
  refine List.nodup_append.mpr ⟨List.nodup_range.filter _, List.nodup_range.filter _, fun a ha b hb e => ?_⟩
  subst e
  exact h ((idx_mem.mp ha).2.symm.trans (idx_mem.mp hb).2)
theorem ord_mem (hg : ∀ i, i < n → goal i = pa ∨ goal i = pb) {i : Nat} : i ∈ ord goal n pa pb ↔ i < n := by
  unfold ord
  rw [List.mem_append, idx_mem, idx_mem]
  constructor
  · rintro (h | h)
    · exact h.1
    · exact h.1
  · intro h
    rcases hg i h with q | q
    · exact .inl ⟨h, q⟩
    · exact .inr ⟨h, q⟩
theorem ord_len (h : pa ≠ pb) (hg : ∀ i, i < n → goal i = pa ∨ goal i = pb) : (ord goal n pa pb).length = n := by
  have p : (ord goal n pa pb).Perm (List.range n) := (List.perm_ext_iff_of_nodup (ord_nodup h) List.nodup_range).mpr fun i => by rw [ord_mem hg, List.mem_range]
  rw [p.length_eq, List.length_range]
end
end M
namespace Lg
open PySem PySem.Spec PyProof.Rows L2 Wr
/-! queues, lists of pairs -/
def sel (goal : Nat → Int) (as : List Addr) (pt : Int) : List Addr := (M.idx goal as.length pt).map fun i => as.getD i 0
def clist (goal : Nat → Int) (cs : List Addr) : List Da := (List.range cs.length).map fun i => .tup [.ref (cs.getD i 0), .int (goal i)]
section
variable {goal : Nat → Int} {as cs : List Addr} {q : Addr} {pt pa pb : Int}
theorem getD_app {i : Nat} (h : i < as.length) : (as ++ [q]).getD i 0 = as.getD i 0 := by
  rw [List.getD_eq_getElem?_getD, List.getD_eq_getElem?_getD, List.getElem?_append_left h]
theorem getD_new : (as ++ [q]).getD as.length 0 = q := by
  rw [List.getD_eq_getElem?_getD, List.getElem?_append_right (Nat.le_refl _), Nat.sub_self]
  rfl
theorem clist_snoc : clist goal (cs ++ [q]) = clist goal cs ++ [.tup [.ref q, .int (goal cs.length)]] := by
  unfold clist
  rw [List.length_append, show [q].length = 1 from rfl, List.range_succ, List.map_append]
  congr 1
  · refine List.map_congr_left fun i hi => ?_
    rw [getD_app (List.mem_range.mp hi)]
  · show [Da.tup [.ref ((cs ++ [q]).getD cs.length 0), _]] = _
    rw [getD_new]
theorem clist_len : (clist goal cs).length = cs.length := by unfold clist; rw [List.length_map, List.length_range]
theorem sel_snoc : sel goal (as ++ [q]) pt = if goal as.length = pt then sel goal as pt ++ [q] else sel goal as pt := by
  unfold sel M.idx
  rw [List.length_append, show [q].length = 1 from rfl, List.range_succ, List.filter_append, List.map_append]
  have e : ((List.range as.length).filter fun i => decide (goal i = pt)).map (fun i => (as ++ [q]).getD i 0) = ((List.range as.length).filter fun i => decide (goal i = pt)).map fun i => as.getD i 0 := List.map_congr_left fun i hi => getD_app (List.mem_range.mp (List.mem_filter.mp hi).1)
  rw [e]
  by_cases z : goal as.length = pt
  · rw [if_pos z]
    have : [as.length].filter (fun i => decide (goal i = pt)) = [as.length] := by simp [z]
    rw [this]
    show _ ++ [(as ++ [q]).getD as.length 0] = _
    rw [getD_new]
  · rw [if_neg z]
    have : [as.length].filter (fun i => decide (goal i = pt)) = [] := by simp [z]
    rw [this]
    exact List.append_nil _
def qs40 (goal : Nat → Int) (pa pb : Int) (as : List Addr) : List (Int × List Addr) := [(pa, sel goal as pa), (pb, sel goal as pb)]
theorem look2 {A B : List Addr} (h : pa ≠ pb) : ([(pa, A), (pb, B)] : List (Int × List Addr)).lookup pa = some A ∧ ([(pa, A), (pb, B)] : List (Int × List Addr)).lookup pb = some B := by
  refine ⟨List.lookup_cons_self, ?_⟩
  rw [List.lookup_cons, show (pb == pa) = false by simpa using fun z : pb = pa => h z.symm]
  exact List.lookup_cons_self
theorem qs_add (h : pa ≠ pb) (hg : goal as.length = pa ∨ goal as.length = pb) : addH (qs40 goal pa pb as) (goal as.length) q = qs40 goal pa pb (as ++ [q]) ∧ ((qs40 goal pa pb as).lookup (goal as.length)).isSome = true := by
  unfold qs40
  rw [sel_snoc, sel_snoc]
  rcases hg with z | z
  · rw [z, if_pos rfl, if_neg h]
    refine ⟨?_, by rw [(look2 h).1]; rfl⟩
    unfold addH
    rw [if_pos (by simp)]
  · rw [z, if_pos rfl, if_neg (fun q => h q.symm)]
    refine ⟨?_, by rw [(look2 h).2]; rfl⟩
    unfold addH
    rw [if_neg (by simpa using fun q : pb = pa => h q.symm)]
    unfold addH
    rw [if_pos (by simp)]
theorem sub_a {X Y : List Addr} : subH [(pa, X), (pb, Y)] pa = [(pa, X.tail), (pb, Y)] := by
  unfold subH
  rw [if_pos (by simp)]
theorem sub_b {X Y : List Addr} (h : pa ≠ pb) : subH [(pa, X), (pb, Y)] pb = [(pa, X), (pb, Y.tail)] := by
  unfold subH
  rw [if_neg (by simpa using fun q : pb = pa => h q.symm)]
  unfold subH
  rw [if_pos (by simp)]
theorem hz2 {A B : List Addr} (hA : A.length ≤ 1000) (hB : B.length ≤ 1000) : HsSz [(pa, A), (pb, B)] := fun port qs h => by
  rw [List.lookup_cons] at h
  split at h
  · obtain rfl := Option.some.inj h; exact hA
  · rw [List.lookup_cons] at h
    split at h
    · obtain rfl := Option.some.inj h; exact hB
    · cases h
theorem idx_len {n : Nat} : (M.idx goal n pt).length ≤ n := by
  unfold M.idx
  exact Nat.le_trans (List.length_filter_le _ _) (Nat.le_of_eq List.length_range)
theorem sel_len : (sel goal as pt).length ≤ as.length := by unfold sel; rw [List.length_map]; exact idx_len
/-- those of a port, out of all -/
def pD (pt : Int) : Da → Bool
  | .tup [_, .int g] => decide (g = pt)
  | _ => false
def one40 (goal : Nat → Int) (cs : List Addr) (i : Nat) : Da := .tup [.ref (cs.getD i 0), .int (goal i)]
theorem clist_filter : ((clist goal cs).filter (pD pt)).map (fun x => x) = (M.idx goal cs.length pt).map (one40 goal cs) := by
  unfold clist M.idx
  rw [List.map_id', List.filter_map]
  rfl
def prs (cs as : List Addr) (π : List Nat) : List Da := π.map fun i => .tup [.ref (cs.getD i 0), .ref (as.getD i 0)]
end
section
variable {K : PySem.W.Frag} {F0 : Hp} {D : Ends} {ds : List (Option Da)} {rs : List Rs} {t : TS} {a b c : Rs}
theorem g_sw3 (k : G K F0 t D ds (a :: c :: b :: rs)) : G K F0 t D ds (a :: b :: c :: rs) := g_perm (List.Perm.cons a (List.Perm.swap c b rs)) k
end
end Lg


namespace Pr
open PySem PySem.Spec PyProof.Rows L2 Evl Wr
def top (i : Nat) : Stmt := PySem.Challenge.pw_wirestream_k40_two_talks.main.body.getD i (.Pass ⟨0, 0, 0, 0⟩)

abbrev s_plus : Stmt := top 6
abbrev s_offset : Stmt := top 7
abbrev s_start : Stmt := top 26
abbrev s_shut : Stmt := top 27
abbrev s_state : Stmt := top 28
abbrev s_folded : Stmt := top 34
abbrev s_two : Stmt := top 36
abbrev s_number_of : Stmt := top 38
abbrev s_has : Stmt := top 47
abbrev s_hear_window : Stmt := top 54
abbrev s_cell : Stmt := top 98
abbrev s_Pile_init : Stmt := inClass (top 2) 0
abbrev s_Pile_room : Stmt := inClass (top 2) 1
abbrev s_Pile_settle : Stmt := inClass (top 2) 4
abbrev s_Pile_is_over : Stmt := inClass (top 2) 5
abbrev s_Pile_taken : Stmt := inClass (top 2) 6
abbrev s_Host_listens : Stmt := inClass (top 96) 2
abbrev s_Host_taken : Stmt := inClass (top 96) 5
abbrev s_past : Stmt := top 8
abbrev s_sum_of : Stmt := top 35
abbrev s_four : Stmt := top 37
abbrev s_length : Stmt := top 48
abbrev s_hear_syn : Stmt := top 55
abbrev s_out_of_place : Stmt := top 62
abbrev s_reset_comes : Stmt := top 63
abbrev s_all_heard : Stmt := top 66
abbrev s_write : Stmt := top 74
abbrev s_read : Stmt := top 75
abbrev s_mix : Stmt := top 99
abbrev s_Pile_keep : Stmt := inClass (top 2) 2
abbrev s_Pile_keep_end : Stmt := inClass (top 2) 3
abbrev s_Host_next : Stmt := inClass (top 96) 1
abbrev s_Host_found : Stmt := inClass (top 96) 3
abbrev s_outstanding : Stmt := top 24
abbrev s_put : Stmt := top 49
abbrev s_is_right : Stmt := top 50
abbrev s_reset_for : Stmt := top 53
abbrev s_fits : Stmt := top 61
abbrev s_window_comes : Stmt := top 65
abbrev s_End_init : Stmt := inClass (top 23) 0
abbrev s_unsent : Stmt := top 25
abbrev s_get : Stmt := top 51
abbrev s_at_closed : Stmt := top 56
abbrev s_at_listen : Stmt := top 57
abbrev s_at_syn_sent : Stmt := top 58
abbrev s_first_answer : Stmt := top 64
abbrev s_data_comes : Stmt := top 68
abbrev s_made : Stmt := top 82
abbrev s_syn_made : Stmt := top 83
abbrev s_gone : Stmt := top 86
abbrev s_answer_comes : Stmt := top 67
abbrev s_opened : Stmt := top 73
abbrev s_again : Stmt := top 84
abbrev s_syn_goes : Stmt := top 85
abbrev s_data_goes : Stmt := top 87
abbrev s_fin_goes : Stmt := top 88
abbrev s_has_more : Stmt := top 89
abbrev s_answer_goes : Stmt := top 91
abbrev s_at_others : Stmt := top 69
abbrev s_probe : Stmt := top 90
abbrev s_new_goes : Stmt := top 92
abbrev s_Host_init : Stmt := inClass (top 96) 0
abbrev s_Host_calls : Stmt := inClass (top 96) 4
abbrev s_Host_made : Stmt := inClass (top 96) 7
abbrev s_arrive_segment : Stmt := top 70
abbrev s_send : Stmt := top 93
abbrev s_Host_arrives : Stmt := inClass (top 96) 6
abbrev s_Host_sends : Stmt := inClass (top 96) 8
abbrev s_lflow : Stmt := top 102
abbrev s_law : Stmt := top 103
def fa : List He.Fa := [.int "ROUND" 4294967296,
  .glo "plus",
  .int "HALF" 2147483648,
  .glo "offset",
  .int "FIRST_WAIT" 1000,
  .glo "start",
  .str "CLOSED" "closed",
  .glo "shut",
  .glo "state",
  .free "range",
  .free "len",
  .glo "folded",
  .glo "two",
  .glo "number_of",
  .glo "has",
  .glo "hear_window",
  .glo "_law_cell",
  .glo "Pile",
  .int "BUFFER" 64,
  .exc "NoPort",
  .glo "NoPort",
  .str "LISTEN" "listen",
  .str "SYN_COME" "syn come",
  .glo "past",
  .glo "sum_of",
  .glo "four",
  .int "SYN" 2,
  .free "int",
  .int "FIN" 1,
  .glo "length",
  .glo "hear_syn",
  .int "RST" 4,
  .int "ACK" 16,
  .str "TIME_WAIT" "time wait",
  .glo "out_of_place",
  .glo "reset_comes",
  .str "WAIT_ONE" "wait one",
  .str "WAIT_TWO" "wait two",
  .str "CLOSING" "closing",
  .str "LAST_ACK" "last ack",
  .glo "all_heard",
  .glo "WRITING",
  .free "min",
  .glo "write",
  .str "OPEN" "open",
  .glo "read",
  .glo "_law_mix",
  .int "STEP" 64000,
  .glo "outstanding",
  .glo "put",
  .int "MOST_DATA" 16,
  .int "LEAST_MOST" 4,
  .glo "is_right",
  .glo "reset_for",
  .glo "fits",
  .glo "window_comes",
  .str "SYN_SENT" "syn sent",
  .int "USUAL_MOST" 12,
  .glo "End",
  .free "max",
  .glo "unsent",
  .exc "NoSegment",
  .glo "NoSegment",
  .free "tuple",
  .glo "get",
  .glo "at_closed",
  .glo "at_listen",
  .glo "at_syn_sent",
  .glo "first_answer",
  .str "CLOSE_WAIT" "close wait",
  .glo "data_comes",
  .glo "made",
  .glo "syn_made",
  .glo "gone",
  .glo "answer_comes",
  .glo "opened",
  .int "MOST_TRIES" 6,
  .int "MOST_WAIT" 16000,
  .glo "again",
  .glo "syn_goes",
  .int "PSH" 8,
  .glo "data_goes",
  .glo "fin_goes",
  .glo "GIVING",
  .glo "ENDING",
  .glo "has_more",
  .glo "answer_goes",
  .glo "HEARING",
  .glo "at_others",
  .glo "probe",
  .glo "new_goes",
  .glo "Host",
  .glo "arrive_segment",
  .int "LAST_WAIT" 120000,
  .glo "send",
  .exm "NoSegment" "NoSegment" true,
  .glo "_law_flow",
  .glo "law"]
def fn : List He.DefD := [⟨("plus", none), "plus", "plus", defArgs s_plus, defBody s_plus, defScope s_plus, [], []⟩,
  ⟨("offset", none), "offset", "offset", defArgs s_offset, defBody s_offset, defScope s_offset, [], []⟩,
  ⟨("start", none), "start", "start", defArgs s_start, defBody s_start, defScope s_start, [], []⟩,
  ⟨("shut", none), "shut", "shut", defArgs s_shut, defBody s_shut, defScope s_shut, [], []⟩,
  ⟨("state", none), "state", "state", defArgs s_state, defBody s_state, defScope s_state, [], []⟩,
  ⟨("folded", none), "folded", "folded", defArgs s_folded, defBody s_folded, defScope s_folded, [], []⟩,
  ⟨("two", none), "two", "two", defArgs s_two, defBody s_two, defScope s_two, [], []⟩,
  ⟨("number_of", none), "number_of", "number_of", defArgs s_number_of, defBody s_number_of, defScope s_number_of, [], []⟩,
  ⟨("has", none), "has", "has", defArgs s_has, defBody s_has, defScope s_has, [], []⟩,
  ⟨("hear_window", none), "hear_window", "hear_window", defArgs s_hear_window, defBody s_hear_window, defScope s_hear_window, [], []⟩,
  ⟨("_law_cell", none), "_law_cell", "_law_cell", defArgs s_cell, defBody s_cell, defScope s_cell, [], []⟩,
  ⟨("Pile", some "__init__"), "__init__", "Pile.__init__", defArgs s_Pile_init, defBody s_Pile_init, defScope s_Pile_init, [], []⟩,
  ⟨("Pile", some "room"), "room", "Pile.room", defArgs s_Pile_room, defBody s_Pile_room, defScope s_Pile_room, [], []⟩,
  ⟨("Pile", some "settle"), "settle", "Pile.settle", defArgs s_Pile_settle, defBody s_Pile_settle, defScope s_Pile_settle, [], []⟩,
  ⟨("Pile", some "is_over"), "is_over", "Pile.is_over", defArgs s_Pile_is_over, defBody s_Pile_is_over, defScope s_Pile_is_over, [], []⟩,
  ⟨("Pile", some "taken"), "taken", "Pile.taken", defArgs s_Pile_taken, defBody s_Pile_taken, defScope s_Pile_taken, [], []⟩,
  ⟨("Host", some "listens"), "listens", "Host.listens", defArgs s_Host_listens, defBody s_Host_listens, defScope s_Host_listens, [], []⟩,
  ⟨("Host", some "taken_end"), "taken_end", "Host.taken_end", defArgs s_Host_taken, defBody s_Host_taken, defScope s_Host_taken, [], []⟩,
  ⟨("past", none), "past", "past", defArgs s_past, defBody s_past, defScope s_past, [], []⟩,
  ⟨("sum_of", none), "sum_of", "sum_of", defArgs s_sum_of, defBody s_sum_of, defScope s_sum_of, [], []⟩,
  ⟨("four", none), "four", "four", defArgs s_four, defBody s_four, defScope s_four, [], []⟩,
  ⟨("length", none), "length", "length", defArgs s_length, defBody s_length, defScope s_length, [], []⟩,
  ⟨("hear_syn", none), "hear_syn", "hear_syn", defArgs s_hear_syn, defBody s_hear_syn, defScope s_hear_syn, [], []⟩,
  ⟨("out_of_place", none), "out_of_place", "out_of_place", defArgs s_out_of_place, defBody s_out_of_place, defScope s_out_of_place, [], []⟩,
  ⟨("reset_comes", none), "reset_comes", "reset_comes", defArgs s_reset_comes, defBody s_reset_comes, defScope s_reset_comes, [], []⟩,
  ⟨("all_heard", none), "all_heard", "all_heard", defArgs s_all_heard, defBody s_all_heard, defScope s_all_heard, [], []⟩,
  ⟨("write", none), "write", "write", defArgs s_write, defBody s_write, defScope s_write, [], []⟩,
  ⟨("read", none), "read", "read", defArgs s_read, defBody s_read, defScope s_read, [], []⟩,
  ⟨("_law_mix", none), "_law_mix", "_law_mix", defArgs s_mix, defBody s_mix, defScope s_mix, [], []⟩,
  ⟨("Pile", some "keep"), "keep", "Pile.keep", defArgs s_Pile_keep, defBody s_Pile_keep, defScope s_Pile_keep, [], []⟩,
  ⟨("Pile", some "keep_end"), "keep_end", "Pile.keep_end", defArgs s_Pile_keep_end, defBody s_Pile_keep_end, defScope s_Pile_keep_end, [], []⟩,
  ⟨("Host", some "next_first"), "next_first", "Host.next_first", defArgs s_Host_next, defBody s_Host_next, defScope s_Host_next, [], []⟩,
  ⟨("Host", some "found_end"), "found_end", "Host.found_end", defArgs s_Host_found, defBody s_Host_found, defScope s_Host_found, [], []⟩,
  ⟨("outstanding", none), "outstanding", "outstanding", defArgs s_outstanding, defBody s_outstanding, defScope s_outstanding, [], []⟩,
  ⟨("put", none), "put", "put", defArgs s_put, defBody s_put, defScope s_put, [], []⟩,
  ⟨("is_right", none), "is_right", "is_right", defArgs s_is_right, defBody s_is_right, defScope s_is_right, [], []⟩,
  ⟨("reset_for", none), "reset_for", "reset_for", defArgs s_reset_for, defBody s_reset_for, defScope s_reset_for, [], []⟩,
  ⟨("fits", none), "fits", "fits", defArgs s_fits, defBody s_fits, defScope s_fits, [], []⟩,
  ⟨("window_comes", none), "window_comes", "window_comes", defArgs s_window_comes, defBody s_window_comes, defScope s_window_comes, [], []⟩,
  ⟨("End", some "__init__"), "__init__", "End.__init__", defArgs s_End_init, defBody s_End_init, defScope s_End_init, [], []⟩,
  ⟨("unsent", none), "unsent", "unsent", defArgs s_unsent, defBody s_unsent, defScope s_unsent, [], []⟩,
  ⟨("get", none), "get", "get", defArgs s_get, defBody s_get, defScope s_get, [], []⟩,
  ⟨("at_closed", none), "at_closed", "at_closed", defArgs s_at_closed, defBody s_at_closed, defScope s_at_closed, [], []⟩,
  ⟨("at_listen", none), "at_listen", "at_listen", defArgs s_at_listen, defBody s_at_listen, defScope s_at_listen, [], []⟩,
  ⟨("at_syn_sent", none), "at_syn_sent", "at_syn_sent", defArgs s_at_syn_sent, defBody s_at_syn_sent, defScope s_at_syn_sent, [], []⟩,
  ⟨("first_answer", none), "first_answer", "first_answer", defArgs s_first_answer, defBody s_first_answer, defScope s_first_answer, [], []⟩,
  ⟨("data_comes", none), "data_comes", "data_comes", defArgs s_data_comes, defBody s_data_comes, defScope s_data_comes, [], []⟩,
  ⟨("made", none), "made", "made", defArgs s_made, defBody s_made, defScope s_made, [], []⟩,
  ⟨("syn_made", none), "syn_made", "syn_made", defArgs s_syn_made, defBody s_syn_made, defScope s_syn_made, [], []⟩,
  ⟨("gone", none), "gone", "gone", defArgs s_gone, defBody s_gone, defScope s_gone, [], []⟩,
  ⟨("answer_comes", none), "answer_comes", "answer_comes", defArgs s_answer_comes, defBody s_answer_comes, defScope s_answer_comes, [], []⟩,
  ⟨("opened", none), "opened", "opened", defArgs s_opened, defBody s_opened, defScope s_opened, [], []⟩,
  ⟨("again", none), "again", "again", defArgs s_again, defBody s_again, defScope s_again, [], []⟩,
  ⟨("syn_goes", none), "syn_goes", "syn_goes", defArgs s_syn_goes, defBody s_syn_goes, defScope s_syn_goes, [], []⟩,
  ⟨("data_goes", none), "data_goes", "data_goes", defArgs s_data_goes, defBody s_data_goes, defScope s_data_goes, [], []⟩,
  ⟨("fin_goes", none), "fin_goes", "fin_goes", defArgs s_fin_goes, defBody s_fin_goes, defScope s_fin_goes, [], []⟩,
  ⟨("has_more", none), "has_more", "has_more", defArgs s_has_more, defBody s_has_more, defScope s_has_more, [], []⟩,
  ⟨("answer_goes", none), "answer_goes", "answer_goes", defArgs s_answer_goes, defBody s_answer_goes, defScope s_answer_goes, [], []⟩,
  ⟨("at_others", none), "at_others", "at_others", defArgs s_at_others, defBody s_at_others, defScope s_at_others, [], []⟩,
  ⟨("probe", none), "probe", "probe", defArgs s_probe, defBody s_probe, defScope s_probe, [], []⟩,
  ⟨("new_goes", none), "new_goes", "new_goes", defArgs s_new_goes, defBody s_new_goes, defScope s_new_goes, [], []⟩,
  ⟨("Host", some "__init__"), "__init__", "Host.__init__", defArgs s_Host_init, defBody s_Host_init, defScope s_Host_init, [], []⟩,
  ⟨("Host", some "calls"), "calls", "Host.calls", defArgs s_Host_calls, defBody s_Host_calls, defScope s_Host_calls, [], []⟩,
  ⟨("Host", some "made_for"), "made_for", "Host.made_for", defArgs s_Host_made, defBody s_Host_made, defScope s_Host_made, [], []⟩,
  ⟨("arrive_segment", none), "arrive_segment", "arrive_segment", defArgs s_arrive_segment, defBody s_arrive_segment, defScope s_arrive_segment, [], []⟩,
  ⟨("send", none), "send", "send", defArgs s_send, defBody s_send, defScope s_send, [], []⟩,
  ⟨("Host", some "arrives"), "arrives", "Host.arrives", defArgs s_Host_arrives, defBody s_Host_arrives, defScope s_Host_arrives, [], []⟩,
  ⟨("Host", some "sends"), "sends", "Host.sends", defArgs s_Host_sends, defBody s_Host_sends, defScope s_Host_sends, [], []⟩,
  ⟨("_law_flow", none), "_law_flow", "_law_flow", defArgs s_lflow, defBody s_lflow, defScope s_lflow, [], []⟩,
  ⟨("law", none), "law", "law", defArgs s_law, defBody s_law, defScope s_law, [], []⟩]
def ex : PySem.W.Frag → Bool := fun K => (endB K && (He.tupB K "GIVING" [.str "open", .str "wait one", .str "close wait", .str "closing", .str "last ack"] && (He.tupB K "ENDING" [.str "wait one", .str "closing", .str "last ack"] && (He.tupB K "WRITING" [.str "syn sent", .str "syn come", .str "open", .str "close wait"] && (He.tupB K "HEARING" [.str "open", .str "wait one", .str "wait two"] && hostB K (["arrives", "calls", "found_end", "listens", "made_for", "next_first", "sends", "taken_end"] : List Str))))))
abbrev R : PySem.W.OpenRow := PySem.W.OpenLaw.row PySem.Challenge.rw_wirestream_k40_two_talks
def loose : List Str := (["__name__", "BUFFER", "Pile", "ROUND", "HALF", "plus", "offset", "past", "CLOSED", "LISTEN", "SYN_SENT", "SYN_COME", "OPEN", "WAIT_ONE", "WAIT_TWO", "CLOSE_WAIT", "CLOSING", "LAST_ACK", "TIME_WAIT", "USUAL_MOST", "FIRST_WAIT", "End", "outstanding", "unsent", "start", "shut", "state", "WireError", "NoSegment", "NoPort"] : List Str) ++ (["folded", "sum_of", "two", "four", "number_of", "FIN", "SYN", "RST", "PSH", "ACK", "MOST_DATA", "LEAST_MOST", "has", "length", "put", "is_right", "get", "reset_for", "hear_window", "hear_syn", "at_closed", "at_listen", "at_syn_sent", "HEARING", "fits", "out_of_place", "reset_comes", "first_answer", "window_comes", "all_heard"] : List Str) ++ (["answer_comes", "data_comes", "at_others", "arrive_segment", "WRITING", "opened", "write", "read", "LAST_WAIT", "MOST_WAIT", "MOST_TRIES", "GIVING", "ENDING", "made", "syn_made", "again", "syn_goes", "gone", "data_goes", "fin_goes", "has_more", "probe", "answer_goes", "new_goes", "send", "STEP", "Host", "_law_cell", "_law_mix", "_law_whole"] : List Str) ++ (["_law_wholes", "_law_flow"] : List Str)

section
variable {w : World} {K : PySem.W.Frag} {mg : Str → Option Value}
theorem EFA (T : Tx fa fn ex w K mg) : EndF K ∧ Mk K (cE K) (He.ma K (cE K) "__init__") ∧ Mk K (cP K) (He.ma K (cP K) "__init__") ∧ ∀ m ∈ (["room", "keep", "keep_end", "settle", "is_over", "taken"] : List Str), Meth K (cP K) m (He.ma K (cP K) m) := endB_ok (Bool.and_eq_true_iff.mp (show ((endB K && (He.tupB K "GIVING" [.str "open", .str "wait one", .str "close wait", .str "closing", .str "last ack"] && (He.tupB K "ENDING" [.str "wait one", .str "closing", .str "last ack"] && (He.tupB K "WRITING" [.str "syn sent", .str "syn come", .str "open", .str "close wait"] && (He.tupB K "HEARING" [.str "open", .str "wait one", .str "wait two"] && hostB K (["arrives", "calls", "found_end", "listens", "made_for", "next_first", "sends", "taken_end"] : List Str))))))) = true from T.more)).1
theorem EFT (T : Tx fa fn ex w K mg) : EndF K := (EFA T).1
theorem MK_End (T : Tx fa fn ex w K mg) : Mk K (cE K) (He.ma K (cE K) "__init__") := (EFA T).2.1
theorem MK_Pile (T : Tx fa fn ex w K mg) : Mk K (cP K) (He.ma K (cP K) "__init__") := (EFA T).2.2.1
theorem ME (T : Tx fa fn ex w K mg) : ∀ m ∈ (["room", "keep", "keep_end", "settle", "is_over", "taken"] : List Str), Meth K (cP K) m (He.ma K (cP K) m) := (EFA T).2.2.2
theorem GT_GIVING (T : Tx fa fn ex w K mg) : ∀ H : Hp, SqT K H (He.ga K "GIVING") (([.opn, .waitOne, .closeWait, .closing, .lastAck] : List M.St).map fun s => V.str (Lg.stx s)) := fun H => He.tupB_ok (Bool.and_eq_true_iff.mp (Bool.and_eq_true_iff.mp (show ((endB K && (He.tupB K "GIVING" [.str "open", .str "wait one", .str "close wait", .str "closing", .str "last ack"] && (He.tupB K "ENDING" [.str "wait one", .str "closing", .str "last ack"] && (He.tupB K "WRITING" [.str "syn sent", .str "syn come", .str "open", .str "close wait"] && (He.tupB K "HEARING" [.str "open", .str "wait one", .str "wait two"] && hostB K (["arrives", "calls", "found_end", "listens", "made_for", "next_first", "sends", "taken_end"] : List Str))))))) = true from T.more)).2).1 H
theorem GT_ENDING (T : Tx fa fn ex w K mg) : ∀ H : Hp, SqT K H (He.ga K "ENDING") (([.waitOne, .closing, .lastAck] : List M.St).map fun s => V.str (Lg.stx s)) := fun H => He.tupB_ok (Bool.and_eq_true_iff.mp (Bool.and_eq_true_iff.mp (Bool.and_eq_true_iff.mp (show ((endB K && (He.tupB K "GIVING" [.str "open", .str "wait one", .str "close wait", .str "closing", .str "last ack"] && (He.tupB K "ENDING" [.str "wait one", .str "closing", .str "last ack"] && (He.tupB K "WRITING" [.str "syn sent", .str "syn come", .str "open", .str "close wait"] && (He.tupB K "HEARING" [.str "open", .str "wait one", .str "wait two"] && hostB K (["arrives", "calls", "found_end", "listens", "made_for", "next_first", "sends", "taken_end"] : List Str))))))) = true from T.more)).2).2).1 H
theorem GT_WRITING (T : Tx fa fn ex w K mg) : ∀ H : Hp, SqT K H (He.ga K "WRITING") (([.synSent, .synCome, .opn, .closeWait] : List M.St).map fun s => V.str (Lg.stx s)) := fun H => He.tupB_ok (Bool.and_eq_true_iff.mp (Bool.and_eq_true_iff.mp (Bool.and_eq_true_iff.mp (Bool.and_eq_true_iff.mp (show ((endB K && (He.tupB K "GIVING" [.str "open", .str "wait one", .str "close wait", .str "closing", .str "last ack"] && (He.tupB K "ENDING" [.str "wait one", .str "closing", .str "last ack"] && (He.tupB K "WRITING" [.str "syn sent", .str "syn come", .str "open", .str "close wait"] && (He.tupB K "HEARING" [.str "open", .str "wait one", .str "wait two"] && hostB K (["arrives", "calls", "found_end", "listens", "made_for", "next_first", "sends", "taken_end"] : List Str))))))) = true from T.more)).2).2).2).1 H
theorem GT_HEARING (T : Tx fa fn ex w K mg) : ∀ H : Hp, SqT K H (He.ga K "HEARING") (([.opn, .waitOne, .waitTwo] : List M.St).map fun s => V.str (Lg.stx s)) := fun H => He.tupB_ok (Bool.and_eq_true_iff.mp (Bool.and_eq_true_iff.mp (Bool.and_eq_true_iff.mp (Bool.and_eq_true_iff.mp (Bool.and_eq_true_iff.mp (show ((endB K && (He.tupB K "GIVING" [.str "open", .str "wait one", .str "close wait", .str "closing", .str "last ack"] && (He.tupB K "ENDING" [.str "wait one", .str "closing", .str "last ack"] && (He.tupB K "WRITING" [.str "syn sent", .str "syn come", .str "open", .str "close wait"] && (He.tupB K "HEARING" [.str "open", .str "wait one", .str "wait two"] && hostB K (["arrives", "calls", "found_end", "listens", "made_for", "next_first", "sends", "taken_end"] : List Str))))))) = true from T.more)).2).2).2).2).1 H
theorem XB (T : Tx fa fn ex w K mg) : (hostB K (["arrives", "calls", "found_end", "listens", "made_for", "next_first", "sends", "taken_end"] : List Str)) = true := (Bool.and_eq_true_iff.mp (Bool.and_eq_true_iff.mp (Bool.and_eq_true_iff.mp (Bool.and_eq_true_iff.mp (Bool.and_eq_true_iff.mp (show ((endB K && (He.tupB K "GIVING" [.str "open", .str "wait one", .str "close wait", .str "closing", .str "last ack"] && (He.tupB K "ENDING" [.str "wait one", .str "closing", .str "last ack"] && (He.tupB K "WRITING" [.str "syn sent", .str "syn come", .str "open", .str "close wait"] && (He.tupB K "HEARING" [.str "open", .str "wait one", .str "wait two"] && hostB K (["arrives", "calls", "found_end", "listens", "made_for", "next_first", "sends", "taken_end"] : List Str))))))) = true from T.more)).2).2).2).2).2
theorem HFT (T : Tx fa fn ex w K mg) : HostF K := (hostB_ok (XB T)).1
theorem MK_Host (T : Tx fa fn ex w K mg) : Mk K (cH K) (He.ma K (cH K) "__init__") := (hostB_ok (XB T)).2.1
theorem HM (T : Tx fa fn ex w K mg) : ∀ m ∈ (["arrives", "calls", "found_end", "listens", "made_for", "next_first", "sends", "taken_end"] : List Str), Meth K (cH K) m (He.ma K (cH K) m) := (hostB_ok (XB T)).2.2
end
section
variable {P : Program} {w : World} {K : PySem.W.Frag} {mg : Str → Option Value} {base : Heap}
theorem sc_plus : FnScope ["number", "step"] ["number", "step"] (defScope s_plus) := ⟨rfl, rfl, rfl, by decide +kernel, rfl, by decide +kernel, by decide +kernel⟩
theorem d_plus (T : Tx fa fn ex w K mg) : Df P w K mg base CX0 1 "plus" ["number", "step"] (SpO p_plus) := by
  refine df_mk T 0 1 rfl rfl sc_plus (fun kV doc pm an cdv ct us hl => match us, hl with | [_, _], _ => rfl) (fun vs H Q E h => ?_) (fun f cdv A outer s H vs Q E hr h => ?_)
  · obtain ⟨v, ⟨a, b, rfl, rfl⟩, k⟩ := h
    rfl
  · obtain ⟨v, ⟨a, b, rfl, rfl⟩, k⟩ := h
    refine ⟨_, PSs.nox (pss_one (ps_ret (pe_op op_mod (pe_op op_add (pv 0) (pv 1)) (pe_gi (T.int 0))))), ?_⟩
    exact s_ret (ev_iC (by decide) (ev_i0 (ev_var rfl) (ev_var rfl)) ev_c) k
theorem sc_offset : FnScope ["number", "base", "far"] ["number", "base"] (defScope s_offset) := ⟨rfl, rfl, rfl, by decide +kernel, rfl, by decide +kernel, by decide +kernel⟩
theorem d_offset (T : Tx fa fn ex w K mg) : Df P w K mg base CX0 1 "offset" ["number", "base"] (SpO p_offset) := by
  refine df_mk T 1 3 rfl rfl sc_offset (fun kV doc pm an cdv ct us hl => match us, hl with | [_, _], _ => rfl) (fun vs H Q E h => ?_) (fun f cdv A outer s H vs Q E hr h => ?_)
  · obtain ⟨v, ⟨a, b, rfl, rfl⟩, k⟩ := h
    rfl
  · obtain ⟨v, ⟨a, b, rfl, rfl⟩, k⟩ := h
    refine ⟨_, PSs.nox (pss_cons (ps_set (i := 2) sc_offset.nd rfl (Or.inl rfl) (pe_op op_mod (pe_op op_sub (pv 0) (pv 1)) (pe_gi (T.int 0))))
      (pss_cons (ps_if (pt_cmpR op_ge (pv 2) (pe_gi (T.int 2)) (nomark _)) (pss_one (ps_ret (pe_op op_sub (pv 2) (pe_gi (T.int 0))))) pss_nil)
      (pss_one (ps_ret (pv 2))))), ?_⟩
    refine q_asg (i := 2) (ev_iC (by decide) (ev_i0 (ev_var rfl) (ev_var rfl)) ev_c) (fun H1 e1 => ?_)
    refine q_when (et_test (ev_i0 (ev_var rfl) ev_c)) (fun h H2 e2 => ?_) (fun h H2 e2 => ?_)
    · exact s_ret (ev_i0 (ev_var rfl) ev_c) (fun H3 e3 => ret_is (k _ ((e1.trans e2).trans e3)) (by simp only [M.offset, h, if_true]))
    · exact s_ret (ev_var rfl) (fun H3 e3 => ret_is (k _ ((e1.trans e2).trans e3)) (by simp only [M.offset, h, Bool.false_eq_true, if_false]))
theorem sc_start : FnScope ["end", "now"] ["end", "now"] (defScope s_start) := ⟨rfl, rfl, rfl, by decide +kernel, rfl, by decide +kernel, by decide +kernel⟩
theorem d_start (T : Tx fa fn ex w K mg) : Df P w K mg base CX0 1 "start" ["end", "now"] (Lg.SpG K (Lg.RE K Lg.R_start)) := by
  refine Lg.df_mkG T 2 5 rfl rfl sc_start (fun kV doc pm an cdv ct us hl => match us, hl with | [_, _], _ => rfl) (fun l rs d rs' h => ?_) (fun f cdv A outer s H E0 hr => ⟨_, PSs.nox (pss_cons (ps_fld (pv 0) (pv 1) rfl)
      (pss_cons (ps_fld (pv 0) (pe_gi (T.int 4)) rfl)
      (pss_one (ps_fld (pv 0) pe_int rfl)))), fun F l rs d rs' Q h k => ?_⟩)
  · obtain ⟨p, e, _, r, _, rfl, rfl, ⟨now, rfl, rfl, rfl⟩, rfl⟩ := h
    rfl
  · obtain ⟨p, e, _, r, _, rfl, rfl, ⟨now, rfl, rfl, rfl⟩, rfl⟩ := h
    have EF := EFT T
    refine Lg.w_since EF (Lg.var (n := 1) rfl) (Lg.var (n := 0) rfl) .here ?_
    refine Lg.w_wait EF Lg.cInt (Lg.var (n := 0) rfl) .here ?_
    refine Lg.w1_tries EF Lg.cInt (Lg.var (n := 0) rfl) .here ?_
    exact Lg.g_end rfl k
theorem sc_shut : FnScope ["end", "why"] ["end", "why"] (defScope s_shut) := ⟨rfl, rfl, rfl, by decide +kernel, rfl, by decide +kernel, by decide +kernel⟩
theorem d_shut (T : Tx fa fn ex w K mg) : Df P w K mg base CX0 1 "shut" ["end", "why"] (Lg.SpG K (Lg.RE K Lg.R_shut)) := by
  refine Lg.df_mkG T 3 7 rfl rfl sc_shut (fun kV doc pm an cdv ct us hl => match us, hl with | [_, _], _ => rfl) (fun l rs d rs' h => ?_) (fun f cdv A outer s H E0 hr => ⟨_, PSs.nox (pss_cons (ps_fld (pv 0) (pe_gs (T.str 6)) rfl)
      (pss_one (ps_fld (pv 0) (pv 1) rfl))), fun F l rs d rs' Q h k => ?_⟩)
  · obtain ⟨p, e, _, r, _, rfl, rfl, ⟨why, rfl, rfl, rfl⟩, rfl⟩ := h
    rfl
  · obtain ⟨p, e, _, r, _, rfl, rfl, ⟨why, rfl, rfl, rfl⟩, rfl⟩ := h
    have EF := EFT T
    refine Lg.w_state EF (Lg.cSt .closed) (Lg.var (n := 0) rfl) .here ?_
    refine Lg.w1_error EF (Lg.var (n := 1) rfl) (Lg.var (n := 0) rfl) .here ?_
    exact Lg.g_end rfl k
theorem sc_state : FnScope ["end"] ["end"] (defScope s_state) := ⟨rfl, rfl, rfl, by decide +kernel, rfl, by decide +kernel, by decide +kernel⟩
theorem d_state (T : Tx fa fn ex w K mg) : Df P w K mg base CX0 1 "state" ["end"] (Lg.SpG K (Lg.RE K Lg.R_state)) := by
  refine Lg.df_mkG T 4 8 rfl rfl sc_state (fun kV doc pm an cdv ct us hl => match us, hl with | [_], _ => rfl) (fun l rs d rs' h => ?_) (fun f cdv A outer s H E0 hr => ⟨_, PSs.nox (pss_one (ps_ret (pe_fld (pv 0) rfl))), fun F l rs d rs' Q h k => ?_⟩)
  · obtain ⟨p, e0, _, r, e, rfl, rfl, ⟨rfl, rfl, rfl⟩, rfl⟩ := h
    rfl
  · obtain ⟨p, e0, _, r, e, rfl, rfl, ⟨rfl, rfl, rfl⟩, rfl⟩ := h
    have EF := EFT T
    exact Lg.g_ret (Lg.r_state EF (Lg.var (n := 0) rfl) .here) rfl k
theorem sc_folded : FnScope ["row", "total", "k"] ["row"] (defScope s_folded) := ⟨rfl, rfl, rfl, by decide +kernel, rfl, by decide +kernel, by decide +kernel⟩
theorem d_folded (T : Tx fa fn ex w K mg) : Df P w K mg base CX0 1 "folded" ["row"] (SpO (p_folded K)) := by
  refine df_mk T 5 11 rfl rfl sc_folded (fun kV doc pm an cdv ct us hl => match us, hl with | [_], _ => rfl) (fun vs H Q E h => ?_) (fun f cdv A outer s H vs Q E hr h => ?_)
  · obtain ⟨v, ⟨a, ns, rfl, hS, hz, rfl⟩, k⟩ := h
    rfl
  · obtain ⟨v, ⟨a, ns, rfl, hS, hz, rfl⟩, k⟩ := h
    refine ⟨_, PSs.nox (pss_cons (ps_set (i := 1) sc_folded.nd rfl (Or.inl rfl) pe_int)
      (pss_cons (ps_for PassesOwn.never rfl (pi_range3 rfl (T.free 9) (pa_cons pe_int (pa_cons (pe_callB call_len_seq (by rfl) (T.free 10) PySem.boot_len (pa_cons (pv 0) pa_nil)) (pa_cons pe_int pa_nil)))) (pg_name (i := 2) sc_folded.nd rfl (Or.inl rfl)) (pss_cons (ps_set (i := 1) sc_folded.nd rfl (Or.inl rfl) (pe_op op_add (pv 1) (pe_op op_mul pe_int (pe_ix ix_list (pv 0) (pv 2) (fun _ _ => rfl)))))
      (pss_one (ps_if (pt_cmpR op_lt (pe_op op_add (pv 2) pe_int) (pe_callB call_len_seq (by rfl) (T.free 10) PySem.boot_len (pa_cons (pv 0) pa_nil)) (nomark _)) (pss_one (ps_set (i := 1) sc_folded.nd rfl (Or.inl rfl) (pe_op op_add (pv 1) (pe_ix ix_list (pv 0) (pe_op op_add (pv 2) pe_int) (fun _ _ => rfl))))) pss_nil))))
      (pss_cons (ps_while PassesOwn.never (pt_cmpR op_gt (pv 1) pe_int (nomark _)) (pss_one (ps_set (i := 1) sc_folded.nd rfl (Or.inl rfl) (pe_op op_add (pe_op op_mod (pv 1) pe_int) (pe_op op_fdivW (pv 1) pe_int)))))
      (pss_one (ps_ret (pv 1)))))), ?_⟩
    refine q_asg (i := 1) ev_c (fun H1 e1 => ?_)
    refine q_forRC (jj := 2) (ea_cons ev_c (ea_cons (ev_lenLi (ex_l e1 hS) (ev_var rfl)) (ea_cons ev_c ea_nil))) (rgc2 hz) (fun i σ' H' => ∃ kv, σ' = [some (.ref a), some (.int (M.wsum (ns.take (2 * i)))), kv] ∧ Ex H H') (fun H2 e2 => ⟨none, rfl, e1.trans e2⟩) ?_ ?_
    · rintro i σ' H' hi ⟨kv, rfl, ex⟩
      have hi2 : 2 * i < ns.length := by omega
      have t1 : ((0 : Int) + (i : Int) * 2).toNat = 2 * i := by omega
      have t2 : ((0 : Int) + (i : Int) * 2 + 1).toNat = 2 * i + 1 := by omega
      refine q_asg (i := 1) (ev_i0 (ev_var rfl) (ev_iC (.inl ⟨by decide, by decide⟩) ev_c (ev_ixLi (ex_l ex hS) (ev_var rfl) (ev_var rfl) ⟨by omega, by omega⟩))) (fun H3 e3 => ?_)
      have ex3 := ex.trans e3
      refine s_when (et_test (ev_i0 (ev_i0 (ev_var rfl) ev_c) (ev_lenLi (ex_l ex3 hS) (ev_var rfl)))) (fun h1 H4 e4 => ?_) (fun h1 H4 e4 => ?_)
      · have h2 := of_decide_eq_true h1
        refine s_asg (i := 1) (ev_i0 (ev_var rfl) (ev_ixLi (ex_l (ex3.trans e4) hS) (ev_var rfl) (ev_i0 (ev_var rfl) ev_c) ⟨by omega, by omega⟩)) (fun H5 e5 => ?_)
        refine ⟨some (.int ((0 : Int) + (i : Int) * 2)), ?_, (ex3.trans e4).trans e5⟩
        rw [M.wsum_take (by omega), ← t2, ← t1]
        rfl
      · have h2 := of_decide_eq_false h1
        refine ⟨some (.int ((0 : Int) + (i : Int) * 2)), ?_, ex3.trans e4⟩
        rw [M.wsum_last (by omega), ← t1]
        rfl
    · rintro σ' H' ⟨kv, rfl, ex⟩
      have ew : M.fold (M.wsum (ns.take (2 * ((ns.length + 1) / 2)))) = M.folded ns := by
        rw [List.take_of_length_le (by omega)]
        rfl
      refine q_while (fun m σ' H' => ∃ t : Int, m = t.toNat ∧ σ' = [some (.ref a), some (.int t), kv] ∧ Ex H H' ∧ M.fold t = M.folded ns) _ ⟨_, rfl, rfl, ex, ew⟩ ?_
      rintro m σ2 H2 ⟨t, rfl, rfl, ex2, ht⟩
      refine ⟨_, et_test (ev_i0 (ev_var rfl) ev_c), fun h H3 e3 => ⟨fun σ' H' => ∃ t2 : Int, t2.toNat < t.toNat ∧ σ' = [some (.ref a), some (.int t2), kv] ∧ Ex H H' ∧ M.fold t2 = M.folded ns, ?_, ?_⟩, fun h H3 e3 => ?_⟩
      · rintro σ3 H4 ⟨t2, hlt, rfl, ex4, ht2⟩
        exact ⟨_, hlt, _, rfl, rfl, ex4, ht2⟩
      · have h2 : 65535 < t := of_decide_eq_true h
        obtain ⟨f1, f2, f3⟩ := M.fold_step h2
        refine s_asg (i := 1) (ev_i0 (ev_iC (by decide) (ev_var rfl) ev_c) (ev_iC ⟨by decide, by decide⟩ (ev_var rfl) ev_c)) (fun H5 e5 => ?_)
        exact ⟨_, by omega, rfl, (ex2.trans e3).trans e5, f1.trans ht⟩
      · have h2 : ¬ 65535 < t := of_decide_eq_false h
        exact s_ret (ev_var rfl) (fun H5 e5 => ret_is (k _ ((ex2.trans e3).trans e5)) (by rw [← ht, M.fold_end (by omega)]))
theorem sc_two : FnScope ["number"] ["number"] (defScope s_two) := ⟨rfl, rfl, rfl, by decide +kernel, rfl, by decide +kernel, by decide +kernel⟩
theorem d_two (T : Tx fa fn ex w K mg) : Df P w K mg base CX0 1 "two" ["number"] (SpLi p_two) := by
  refine df_mk T 6 12 rfl rfl sc_two (fun kV doc pm an cdv ct us hl => match us, hl with | [_], _ => rfl) (fun vs H Q E h => ?_) (fun f cdv A outer s H vs Q E hr h => ?_)
  · obtain ⟨v, ⟨n, rfl, rfl⟩, k⟩ := h
    rfl
  · obtain ⟨v, ⟨n, rfl, rfl⟩, k⟩ := h
    refine ⟨_, PSs.nox (pss_one (ps_ret (pe_lst (pa_cons (pe_op op_fdivW (pv 0) pe_int) (pa_cons (pe_op op_mod (pv 0) pe_int) pa_nil))))), ?_⟩
    exact s_retL (el_dispI (ea_consI (ev_iC ⟨by decide, by decide⟩ (ev_var rfl) ev_c) (ea_consI (ev_iC (by decide) (ev_var rfl) ev_c) ea_nilI)) (sz rfl)) k
theorem sc_number_of : FnScope ["row", "found", "byte"] ["row"] (defScope s_number_of) := ⟨rfl, rfl, rfl, by decide +kernel, rfl, by decide +kernel, by decide +kernel⟩
theorem d_number_of (T : Tx fa fn ex w K mg) : Df P w K mg base CX0 1 "number_of" ["row"] (SpO (p_number_of K)) := by
  refine df_mk T 7 13 rfl rfl sc_number_of (fun kV doc pm an cdv ct us hl => match us, hl with | [_], _ => rfl) (fun vs H Q E h => ?_) (fun f cdv A outer s H vs Q E hr h => ?_)
  · obtain ⟨v, ⟨a, ns, rfl, hS, rfl⟩, k⟩ := h
    rfl
  · obtain ⟨v, ⟨a, ns, rfl, hS, rfl⟩, k⟩ := h
    refine ⟨_, PSs.nox (pss_cons (ps_set (i := 1) sc_number_of.nd rfl (Or.inl rfl) pe_int)
      (pss_cons (ps_for PassesOwn.never rfl (pi_list (pv 0)) (pg_name (i := 2) sc_number_of.nd rfl (Or.inl rfl)) (pss_one (ps_set (i := 1) sc_number_of.nd rfl (Or.inl rfl) (pe_op op_add (pe_op op_mul (pv 1) pe_int) (pv 2)))))
      (pss_one (ps_ret (pv 1))))), ?_⟩
    refine q_asg (i := 1) ev_c (fun H1 e1 => ?_)
    refine q_forL (ev_var rfl) (ex_l e1 hS) (fun i σ' H' => ∃ kv, σ' = [some (.ref a), some (.int (M.number_of (ns.take i))), kv] ∧ Ex H H') (fun H2 e2 => ⟨none, rfl, e1.trans e2⟩) (fun i σ' H' _ ⟨_, _, ex⟩ => ex_l ex hS) ?_ ?_
    · rintro i x σ' H' hi ⟨kv, rfl, ex⟩
      rw [List.getElem?_map] at hi
      cases hx : ns[i]? with
      | none => rw [hx] at hi; cases hi
      | some n =>
        rw [hx] at hi
        obtain rfl := (Option.some.inj hi).symm
        show tAsg _ _ _ _ _
        refine s_asg (i := 1) (ev_i0 (ev_iC (.inr ⟨by decide, by decide⟩) (ev_var rfl) ev_c) (ev_var (i := 2) rfl)) (fun H5 e5 => ?_)
        refine ⟨some (.int n), ?_, ex.trans e5⟩
        rw [M.number_of_take hx]
        rfl
    · rintro σ' H' ⟨kv, rfl, ex⟩
      exact s_ret (ev_var rfl) (fun H5 e5 => ret_is (k _ (ex.trans e5)) (by rw [List.take_of_length_le (by rw [List.length_map]; exact Nat.le_refl _)]))
theorem sc_has : FnScope ["segment", "flag"] ["segment", "flag"] (defScope s_has) := ⟨rfl, rfl, rfl, by decide +kernel, rfl, by decide +kernel, by decide +kernel⟩
theorem d_has (T : Tx fa fn ex w K mg) : Df P w K mg base CX0 1 "has" ["segment", "flag"] (Lg.SpG K (Lg.RP Lg.f_has)) := by
  refine Lg.df_mkG T 8 14 rfl rfl sc_has (fun kV doc pm an cdv ct us hl => match us, hl with | [_, _], _ => rfl) (fun l rs d rs' h => ?_) (fun f cdv A outer s H E0 hr => ⟨_, PSs.nox (pss_one (ps_ret (pe_cmpR op_eq (pe_op op_mod (pe_op op_fdivW (pe_ix ix_tup (pv 0) pe_int (fun _ _ => rfl)) (pv 1)) pe_int) pe_int (nomark _)))), fun F l rs d rs' Q h k => ?_⟩)
  · obtain ⟨⟨s0, fl, rfl, hf, rfl⟩, rfl⟩ := h
    rfl
  · obtain ⟨⟨s0, fl, rfl, hf, rfl⟩, rfl⟩ := h
    exact Lg.g_ret (Lg.is_ (Lg.eqI (Lg.iC (by decide) (Lg.iC (wide_div (b := 10) hf.1 (by have := hf.2; have := hf.1; omega) (by decide) (by decide)) (Lg.ixT (n := 4) (Lg.var (n := 0) rfl) Lg.cInt rfl) (Lg.var (n := 1) rfl)) Lg.cInt) Lg.cInt) (by first | rfl | (simp only [M.has, ↓reduceIte, Bool.false_eq_true, if_false, if_true] <;> rfl))) rfl k
theorem sc_hear_window : FnScope ["end", "segment"] ["end", "segment"] (defScope s_hear_window) := ⟨rfl, rfl, rfl, by decide +kernel, rfl, by decide +kernel, by decide +kernel⟩
theorem d_hear_window (T : Tx fa fn ex w K mg) : Df P w K mg base CX0 1 "hear_window" ["end", "segment"] (Lg.SpG K (Lg.RE K Lg.R_hear_window)) := by
  refine Lg.df_mkG T 9 15 rfl rfl sc_hear_window (fun kV doc pm an cdv ct us hl => match us, hl with | [_, _], _ => rfl) (fun l rs d rs' h => ?_) (fun f cdv A outer s H E0 hr => ⟨_, PSs.nox (pss_cons (ps_fld (pv 0) (pe_ix ix_tup (pv 1) pe_int (fun _ _ => rfl)) rfl)
      (pss_cons (ps_fld (pv 0) (pe_ix ix_tup (pv 1) pe_int (fun _ _ => rfl)) rfl)
      (pss_one (ps_fld (pv 0) (pe_ix ix_tup (pv 1) pe_int (fun _ _ => rfl)) rfl)))), fun F l rs d rs' Q h k => ?_⟩)
  · obtain ⟨p, e, _, r, _, rfl, rfl, ⟨s, rfl, rfl, rfl⟩, rfl⟩ := h
    rfl
  · obtain ⟨p, e, _, r, _, rfl, rfl, ⟨s, rfl, rfl, rfl⟩, rfl⟩ := h
    have EF := EFT T
    refine Lg.w_wnd EF (Lg.ixT (n := 5) (Lg.var (n := 1) rfl) Lg.cInt rfl) (Lg.var (n := 0) rfl) .here ?_
    refine Lg.w_told EF (Lg.ixT (n := 2) (Lg.var (n := 1) rfl) Lg.cInt rfl) (Lg.var (n := 0) rfl) .here ?_
    refine Lg.w1_told_by EF (Lg.ixT (n := 3) (Lg.var (n := 1) rfl) Lg.cInt rfl) (Lg.var (n := 0) rfl) .here ?_
    exact Lg.g_end rfl k
theorem sc_cell : FnScope ["_law_script", "_law_k"] ["_law_script", "_law_k"] (defScope s_cell) := ⟨rfl, rfl, rfl, by decide +kernel, rfl, by decide +kernel, by decide +kernel⟩
theorem d_cell (T : Tx fa fn ex w K mg) : Df P w K mg base CX0 1 "_law_cell" ["_law_script", "_law_k"] (SpO (p_cell K)) := by
  refine df_mk T 10 16 rfl rfl sc_cell (fun kV doc pm an cdv ct us hl => match us, hl with | [_, _], _ => rfl) (fun vs H Q E h => ?_) (fun f cdv A outer s H vs Q E hr h => ?_)
  · obtain ⟨v, ⟨a, ns, kk, rfl, hS, rfl⟩, k⟩ := h
    rfl
  · obtain ⟨v, ⟨a, ns, kk, rfl, hS, rfl⟩, k⟩ := h
    refine ⟨_, PSs.nox (pss_cons (ps_if (pt_truth (pv 0) (fun _ => rfl)) (pss_one (ps_ret (pe_ix ix_list (pv 0) (pe_op op_mod (pv 1) (pe_callB call_len_seq (by rfl) (T.free 10) PySem.boot_len (pa_cons (pv 0) pa_nil))) (fun _ _ => rfl)))) pss_nil)
      (pss_one (ps_ret pe_int))), ?_⟩
    refine q_when (et_truLi hS (ev_var rfl)) (fun h1 H1 e1 => ?_) (fun h1 H1 e1 => ?_)
    · exact s_ret (Ev.mono e1 (ev_ixLi hS (ev_var rfl) (ev_iC (M.cell_pos h1) (ev_var rfl) (ev_lenLi hS (ev_var rfl))) (M.cell_ix h1))) (fun H2 e2 => ret_is (k _ (e1.trans e2)) (by simp only [M.cell, h1, if_true]))
    · exact s_ret ev_c (fun H2 e2 => ret_is (k _ (e1.trans e2)) (by simp only [M.cell, h1, Bool.false_eq_true, if_false]))
theorem sc_Pile_init : FnScope ["self"] ["self"] (defScope s_Pile_init) := ⟨rfl, rfl, rfl, by decide +kernel, rfl, by decide +kernel, by decide +kernel⟩
theorem m_Pile_init (T : Tx fa fn ex w K mg) : C8.Mak P w K mg base 1 "Pile" (He.ga K "Pile") (Lg.SpG K (Lg.i_pile K)) [] := by
  refine Lg.mak_of (MK_Pile T) (T.glo 17) (Lg.ok_mkG (c := ("Pile", some "__init__")) T 11 rfl sc_Pile_init (fun kV doc pm an cdv ct us hl => match us, hl with | [_], _ => rfl) (fun l rs d rs' h => ?_) (fun f cdv A outer s H E0 hr => ⟨_, (pss_cons (ps_fld (pv 0) (pe_lst pa_nil) rfl)
      (pss_cons (ps_fld (pv 0) pe_int rfl)
      (pss_cons (ps_fld (pv 0) pe_dnewK rfl)
      (pss_one (ps_fld (pv 0) pe_non rfl))))), fun F l rs d rs' Q h k => ?_⟩))
  · obtain ⟨x, r, rfl, rfl, rfl, rfl⟩ := h
    rfl
  · have EF := EFT T
    obtain ⟨x, r, rfl, rfl, rfl, rfl⟩ := h
    refine Lg.g_raw (EF).cp ((EF).np _ (by simp)) (Nat.lt_of_le_of_lt (Nat.le_refl 0) (by decide)) (Lg.evX_swap (Lg.evN_X Lg.newL)) rfl (fun a0 => ?_)
    refine Lg.g_raw (EF).cp ((EF).np _ (by simp)) (Nat.lt_of_le_of_lt (Lg.putD_b (Nat.le_refl 0)) (by decide)) (Lg.ev_X Lg.cInt) rfl (fun a1 => ?_)
    refine Lg.g_raw (EF).cp ((EF).np _ (by simp)) (Nat.lt_of_le_of_lt (Lg.putD_b (Lg.putD_b (Nat.le_refl 0))) (by decide)) (Lg.evX_swap Lg.newD) rfl (fun a2 => ?_)
    refine Lg.g_raw1 (EF).cp ((EF).np _ (by simp)) (Nat.lt_of_le_of_lt (Lg.putD_b (Lg.putD_b (Lg.putD_b (Nat.le_refl 0)))) (by decide)) (Lg.ev_X Lg.cNon) rfl (fun a3 => ?_)
    exact Lg.g_conv (fun F H o => Lg.pile_of_raw o) (Lg.g_end rfl k)
theorem sc_Pile_room : FnScope ["self"] ["self"] (defScope s_Pile_room) := ⟨rfl, rfl, rfl, by decide +kernel, rfl, by decide +kernel, by decide +kernel⟩
theorem m_Pile_room (T : Tx fa fn ex w K mg) : C8.Met P w K mg base 1 (He.ga K "Pile") "room" (Lg.SpG K (Lg.RQ K Lg.Q_room)) [] := by
  refine Lg.met_of (EFT T).cp (ME T "room" (by simp)) (Lg.ok_mkG (c := ("Pile", some "room")) T 12 rfl sc_Pile_room (fun kV doc pm an cdv ct us hl => match us, hl with | [_], _ => rfl) (fun l rs d rs' h => ?_) (fun f cdv A outer s H E0 hr => ⟨_, (pss_one (ps_ret (pe_op op_sub (pe_gi (T.int 18)) (pe_callB call_len_seq (by rfl) (T.free 10) PySem.boot_len (pa_cons (pe_fld (pv 0) rfl) pa_nil))))), fun F l rs d rs' Q h k => ?_⟩))
  · obtain ⟨p, q, _, r, _, rfl, rfl, ⟨rfl, rfl, rfl⟩, rfl⟩ := h
    rfl
  · have EF := EFT T
    obtain ⟨p, q, _, r, _, rfl, rfl, ⟨rfl, rfl, rfl⟩, rfl⟩ := h
    exact Lg.g_ret (Lg.iI Lg.cInt (Lg.pr_lenHeld EF (Lg.var (n := 0) rfl))) rfl k
theorem sc_Pile_settle : FnScope ["self", "many"] ["self"] (defScope s_Pile_settle) := ⟨rfl, rfl, rfl, by decide +kernel, rfl, by decide +kernel, by decide +kernel⟩
theorem m_Pile_settle (T : Tx fa fn ex w K mg) : C8.Met P w K mg base 1 (He.ga K "Pile") "settle" (Lg.SpG K (Lg.RQ K Lg.Q_settle)) [] := by
  refine Lg.met_of (EFT T).cp (ME T "settle" (by simp)) (Lg.ok_mkG (c := ("Pile", some "settle")) T 13 rfl sc_Pile_settle (fun kV doc pm an cdv ct us hl => match us, hl with | [_], _ => rfl) (fun l rs d rs' h => ?_) (fun f cdv A outer s H E0 hr => ⟨_, (pss_cons (ps_set (i := 1) sc_Pile_settle.nd rfl (Or.inl rfl) pe_int)
      (pss_cons (ps_while PassesOwn.never (PW.pt (pw_and (pt_cmp (pc_din (hu_of hr) (pe_fld (pv 0) rfl) (pe_fld (pv 0) rfl))) (pw_and1 (pt_cmpR op_ne (pe_fld (pv 0) rfl) (pe_fld (pv 0) rfl) (nomark _))))) (pss_cons (ps_expr (pe_bm PySem.F.plainAttrs_list PySem.F.slot_list_append PySem.F.type_list_append mt_append (pe_fld (pv 0) rfl) (pa_cons (pe_dpop1 (pe_fld (pv 0) rfl) (pe_fld (pv 0) rfl) ⟨rfl, rfl, rfl, rfl⟩) pa_nil)))
      (pss_cons (ps_fld (pv 0) (pe_op op_add (pe_fld (pv 0) rfl) pe_int) rfl)
      (pss_one (ps_set (i := 1) sc_Pile_settle.nd rfl (Or.inl rfl) (pe_op op_add (pv 1) pe_int))))))
      (pss_one (ps_ret (pv 1))))), fun F l rs d rs' Q h k => ?_⟩))
  · obtain ⟨p, q, _, r, _, rfl, rfl, ⟨rfl, hz, rfl, rfl⟩, rfl⟩ := h
    rfl
  · have EF := EFT T
    obtain ⟨p, q, _, r, _, rfl, rfl, ⟨rfl, hz, rfl, rfl⟩, rfl⟩ := h
    refine Lg.g_asg (ii := 1) Lg.cInt ?_
    refine Lg.g_while (fun t : M.PileS × Int => [some (.ref p), some (.int t.2)]) (fun t => Lg.pileR K p t.1 :: r) (fun t => M.settle1 t.1 t.2 = M.settle q ∧ t.1.held.length + t.1.early.length ≤ 30000) (fun t => t.1.early.length) (q, 0) rfl rfl ⟨rfl, hz⟩ ?_
    rintro ⟨t, m⟩ ⟨ht, hz1⟩
    refine ⟨_, (Lg.tAnd_ (Lg.tst (Lg.p_in EF (Lg.pr_come EF (Lg.var (n := 0) rfl)) (Lg.var (n := 0) rfl))) (fun hc1 => (Lg.tst (Lg.neOI (Lg.pr_come EF (Lg.var (n := 0) rfl)) (Lg.pr_last EF (Lg.var (n := 0) rfl)))))), fun h => ?_, fun h => ?_⟩
    · obtain ⟨b, hb, hs, hl, hz2⟩ := M.settle_step (m := m) h hz1
      refine Lg.p_take (b := b) EF (fun rs' => Lg.var rfl) hb (by have := M.getK_len hb; omega) ?_
      refine Lg.pw_come EF (Lg.iI (Lg.pr_come EF (Lg.var (n := 0) rfl)) Lg.cInt) (Lg.var (n := 0) rfl) ?_
      exact Lg.g_asg1 (ii := 1) (Lg.iI (Lg.var (n := 1) rfl) Lg.cInt) (Lg.g_post rfl ⟨({ held := t.held ++ [b], come := t.come + 1, early := M.delK t.early t.come, last := t.last }, m + 1), ⟨hs.symm.trans ht, hz2⟩, hl, rfl, rfl⟩)
    · rw [← ht, M.settle_stop (m := m) h] at k
      exact Lg.g_ret (Lg.var (n := 1) rfl) rfl k
theorem sc_Pile_is_over : FnScope ["self"] ["self"] (defScope s_Pile_is_over) := ⟨rfl, rfl, rfl, by decide +kernel, rfl, by decide +kernel, by decide +kernel⟩
theorem m_Pile_is_over (T : Tx fa fn ex w K mg) : C8.Met P w K mg base 1 (He.ga K "Pile") "is_over" (Lg.SpG K (Lg.RQ K Lg.Q_is_over)) [] := by
  refine Lg.met_of (EFT T).cp (ME T "is_over" (by simp)) (Lg.ok_mkG (c := ("Pile", some "is_over")) T 14 rfl sc_Pile_is_over (fun kV doc pm an cdv ct us hl => match us, hl with | [_], _ => rfl) (fun l rs d rs' h => ?_) (fun f cdv A outer s H E0 hr => ⟨_, (pss_one (ps_ret (pe_cmpR op_eq (pe_fld (pv 0) rfl) (pe_fld (pv 0) rfl) (nomark _)))), fun F l rs d rs' Q h k => ?_⟩))
  · obtain ⟨p, q0, _, r, q, rfl, rfl, ⟨rfl, rfl, rfl⟩, rfl⟩ := h
    rfl
  · have EF := EFT T
    obtain ⟨p, q0, _, r, q, rfl, rfl, ⟨rfl, rfl, rfl⟩, rfl⟩ := h
    exact Lg.g_ret (Lg.eqOI (Lg.pr_come EF (Lg.var (n := 0) rfl)) (Lg.pr_last EF (Lg.var (n := 0) rfl))) rfl k
theorem sc_Pile_taken : FnScope ["self", "many", "found"] ["self", "many"] (defScope s_Pile_taken) := ⟨rfl, rfl, rfl, by decide +kernel, rfl, by decide +kernel, by decide +kernel⟩
theorem m_Pile_taken (T : Tx fa fn ex w K mg) : C8.Met P w K mg base 1 (He.ga K "Pile") "taken" (Lg.SpG K (Lg.RQ K Lg.Q_taken)) [] := by
  refine Lg.met_of (EFT T).cp (ME T "taken" (by simp)) (Lg.ok_mkG (c := ("Pile", some "taken")) T 15 rfl sc_Pile_taken (fun kV doc pm an cdv ct us hl => match us, hl with | [_, _], _ => rfl) (fun l rs d rs' h => ?_) (fun f cdv A outer s H E0 hr => ⟨_, (pss_cons (ps_set (i := 2) sc_Pile_taken.nd rfl (Or.inl rfl) (pe_slice sl_list (pe_fld (pv 0) rfl) po_none (po_some (pv 1))))
      (pss_cons (ps_fld (pv 0) (pe_slice sl_list (pe_fld (pv 0) rfl) (po_some (pv 1)) po_none) rfl)
      (pss_one (ps_ret (pv 2))))), fun F l rs d rs' Q h k => ?_⟩))
  · obtain ⟨p, q, _, r, _, rfl, rfl, ⟨many, rfl, rfl, rfl⟩, rfl⟩ := h
    rfl
  · have EF := EFT T
    obtain ⟨p, q, _, r, _, rfl, rfl, ⟨many, rfl, rfl, rfl⟩, rfl⟩ := h
    refine Lg.g_asgV (ii := 2) (Lg.evN_X (Lg.pr_slHeld EF (Lg.var (n := 0) rfl) (fun rs' => Lg.oNo) (fun rs' => Lg.oYes (Lg.var (n := 1) rfl)))) (fun a => ?_)
    refine Lg.g_freezeI (ii := 2) rfl ?_
    refine Lg.pw_held EF (Lg.pr_slHeld EF (Lg.var (n := 0) rfl) (fun rs' => Lg.oYes (Lg.var (n := 1) rfl)) (fun rs' => Lg.oNo)) (fun rs' => Lg.var rfl) ?_
    exact Lg.g_ret (Lg.var (n := 2) rfl) rfl k
theorem sc_Host_listens : FnScope ["self", "port"] ["self", "port"] (defScope s_Host_listens) := ⟨rfl, rfl, rfl, by decide +kernel, rfl, by decide +kernel, by decide +kernel⟩
theorem m_Host_listens (T : Tx fa fn ex w K mg) : MetX P w K mg base 1 (He.ga K "Host") "listens" (Lg.SpEX K (He.ga K "NoPort") (Lg.e_listens K) (Lg.x_listens K)) := by
  refine Lg.metX_of (HFT T).ch (HM T "listens" (by simp)) (Lg.ok_mkEX (c := ("Host", some "listens")) T 16 rfl sc_Host_listens (fun kV doc pm an cdv ct us hl => match us, hl with | [_, _], _ => rfl) (fun l rs ff gg h => ?_) (fun l rs h => ?_) (fun f cdv A outer s H E hr => ⟨_, (pss_cons (ps_if (pt_cmp (pc_din (hu_of hr) (pv 1) (pe_fld (pv 0) rfl))) (pss_one (ps_raiseC rfl (takes_of rfl rfl rfl rfl) (T.exc 19) (T.glo 20))) pss_nil)
      (pss_cons (ps_dput (hu_of hr) (pe_fld (pv 0) rfl) (pv 1) (pe_lst pa_nil) rfl)
      (pss_one (ps_ret pe_non)))), fun F l rs Q h => ?_⟩))
  · obtain ⟨p, as, hs, h, port, r, rfl, rfl, hno, hn, rfl, rfl⟩ := h
    rfl
  · obtain ⟨p, as, hs, h, port, r, rfl, rfl, his⟩ := h
    rfl
  · have EF := EFT T
    have HF := HFT T
    rcases h with ⟨ff, gg, ⟨p, as, hs, h, port, r, rfl, rfl, hno, hn, rfl, rfl⟩, k⟩ | ⟨⟨p, as, hs, h, port, r, rfl, rfl, his⟩, k⟩
    · refine Lg.g_openA (fun el hd sp ls hl hl2 => ?_)
      have hno2 : ((hs.map Prod.fst).zip ls).lookup port = none := by
        have := Lg.heard_is (port := port) hl2
        rw [hno] at this
        simpa using this
      refine Lg.g_no (Lg.tst (Lg.inK (Lg.var (n := 1) rfl) (Lg.raw_fld (d := .ref hd) HF.ch (HF.nh _ (by simp)) (Lg.var (n := 0) rfl) .here (by kernel_rfl)) (.there (.there .here)))) (by rw [hno2]; rfl) ?_
      refine Lg.g_putA (Lg.evN_X Lg.newL) (fun a => (Lg.raw_fld (d := .ref hd) HF.ch (HF.nh _ (by simp)) (Lg.var (n := 0) rfl) (.there .here) (by kernel_rfl))) (fun a => (Lg.var (n := 1) rfl)) (fun a => .there (.there (.there .here))) hno2 (by rw [List.length_zip, List.length_map]; omega) (fun a => ?_)
      refine Lg.g_hearA hl hl2 ?_
      exact Lg.g_ret Lg.cNon rfl (k p)
    · refine Lg.g_openA (fun el hd sp ls hl hl2 => ?_)
      refine Lg.g_when (Lg.tst (Lg.inK (Lg.var (n := 1) rfl) (Lg.raw_fld (d := .ref hd) HF.ch (HF.nh _ (by simp)) (Lg.var (n := 0) rfl) .here (by kernel_rfl)) (.there (.there .here)))) (fun _ => Lg.g_closeA hl hl2 (Lg.g_raise k)) (fun h1 => ?_)
      rw [Lg.heard_is hl2, his] at h1
      cases h1
theorem sc_Host_taken : FnScope ["self", "port", "ready", "end"] ["self", "port"] (defScope s_Host_taken) := ⟨rfl, rfl, rfl, by decide +kernel, rfl, by decide +kernel, by decide +kernel⟩
theorem m_Host_taken (T : Tx fa fn ex w K mg) : MetX P w K mg base 1 (He.ga K "Host") "taken_end" (Lg.SpEX K (He.ga K "NoPort") (Lg.e_takenB K) (Lg.x_takenA K)) := by
  refine Lg.metX_of (HFT T).ch (HM T "taken_end" (by simp)) (Lg.ok_mkEX (c := ("Host", some "taken_end")) T 17 rfl sc_Host_taken (fun kV doc pm an cdv ct us hl => match us, hl with | [_, _], _ => rfl) (fun l rs ff gg h => ?_) (fun l rs h => ?_) (fun f cdv A outer s H E hr => ⟨_, (pss_cons (ps_if (pt_cmp (pc_dnotin (hu_of hr) (pv 1) (pe_fld (pv 0) rfl))) (pss_one (ps_raiseC rfl (takes_of rfl rfl rfl rfl) (T.exc 19) (T.glo 20))) pss_nil)
      (pss_cons (ps_setLc (i := 2) (own := [("end", 3)]) (g := gName 3) rfl sc_Host_taken.nd rfl rfl (sw_true rfl rfl rfl (by decide +kernel)) (pi_list (pe_dget (hu_of hr) (pe_fld (pv 0) rfl) (pv 1) (fun _ _ => rfl))) (blkOk_by (own := [("end", 3)]) (N := ["self", "port", "ready", "end"]) (sc := defScope s_Host_taken) (by decide +kernel)) (fun _ _ _ _ _ => pg_name (i := 3) sc_Host_taken.nd rfl (Or.inl rfl)) (fun _ _ _ _ _ => (pts_one (pt_cmpR (op_notIn_seqK (K := K) rfl) (pe_fldK (K := K) rfl (pv 3) rfl) (pe_tup (pa_cons (pe_gs (T.str 21)) (pa_cons (pe_gs (T.str 22)) (pa_cons (pe_gs (T.str 6)) pa_nil)))) rfl))) (fun _ _ _ _ _ => (pv 3)))
      (pss_cons (ps_if (pt_not (pt_truth (pv 2) (fun _ => rfl))) (pss_one (ps_ret pe_non)) pss_nil)
      (pss_cons (ps_expr (pe_bm PySem.F.plainAttrs_list PySem.F.slot_list_remove PySem.F.type_list_remove mt_remove0 (pe_dget (hu_of hr) (pe_fld (pv 0) rfl) (pv 1) (fun _ _ => rfl)) (pa_cons (pe_ix ix_list (pv 2) pe_int (fun _ _ => rfl)) pa_nil)))
      (pss_one (ps_ret (pe_ix ix_list (pv 2) pe_int (fun _ _ => rfl)))))))), fun F l rs Q h => ?_⟩))
  · obtain ⟨p, as, hs, h, port, r, rfl, rfl, hR⟩ := h
    rfl
  · obtain ⟨p, as, hs, h, port, r, rfl, rfl, his⟩ := h
    rfl
  · have EF := EFT T
    have HF := HFT T
    rcases h with ⟨ff, gg, ⟨p, as, hs, h, port, r, rfl, rfl, hR⟩, k⟩ | ⟨⟨p, as, hs, h, port, r, rfl, rfl, his⟩, k⟩
    · refine Lg.g_openA (fun el hd sp ls hl hl2 => ?_)
      rcases hR with ⟨hq, rfl, rfl⟩ | ⟨q, qs, hq, hn, hrd, rfl, rfl⟩
      · obtain ⟨la, g1, g2, g3⟩ := Lg.heard_at (K := K) hl2 hq
        obtain ⟨rest, g4⟩ := g3 r
        refine Lg.g_no (Lg.tst (Lg.niK (Lg.var (n := 1) rfl) (Lg.raw_fld (d := .ref hd) HF.ch (HF.nh _ (by simp)) (Lg.var (n := 0) rfl) .here (by kernel_rfl)) (.there (.there .here)))) (by rw [g1]; rfl) ?_
        refine Lg.g_asg (ii := 2) (Lg.lcO (qs := []) (fun _ => true) Lg.Da.ref (Lg.getK (Lg.raw_fld (d := .ref hd) HF.ch (HF.nh _ (by simp)) (Lg.var (n := 0) rfl) .here (by kernel_rfl)) (Lg.var (n := 1) rfl) (.there (.there .here)) g1) (.there (.there (.there (.there (Lg.pick_app g4 _))))) (by decide) (fun _ _ _ h => nomatch h) (fun _ _ _ h => nomatch h)) ?_
        exact Lg.g_when (Lg.tNot_ (Lg.truL (Lg.var (n := 2) rfl))) (fun _ => Lg.g_closeA hl hl2 (Lg.g_ret Lg.cNon rfl (k p))) (fun h1 => nomatch h1)
      · obtain ⟨la, g1, g2, g3⟩ := Lg.heard_sub (K := K) hl2 hq
        obtain ⟨rest, g4⟩ := g3 r
        refine Lg.g_no (Lg.tst (Lg.niK (Lg.var (n := 1) rfl) (Lg.raw_fld (d := .ref hd) HF.ch (HF.nh _ (by simp)) (Lg.var (n := 0) rfl) .here (by kernel_rfl)) (.there (.there .here)))) (by rw [g1]; rfl) ?_
        refine Lg.g_asg (ii := 2) (Lg.lcO (qs := q :: qs) (fun _ => true) Lg.Da.ref (Lg.getK (Lg.raw_fld (d := .ref hd) HF.ch (HF.nh _ (by simp)) (Lg.var (n := 0) rfl) .here (by kernel_rfl)) (Lg.var (n := 1) rfl) (.there (.there .here)) g1) (.there (.there (.there (.there (Lg.pick_app g4 _))))) (Nat.le_trans hn (by decide)) (fun x Dl acc hx => ?_) (fun x Dl acc hx _ => ?_)) ?_
        · obtain ⟨i, e, ha, he, hst⟩ := hrd x hx
          obtain ⟨rest2, hp⟩ := Lg.pick_nth (K := K) (r := Lg.lsR K ls hs ++ r) ha he
          have hp3 : Pick (Lg.endR K x e) (Lg.ptR Dl acc :: Lg.openA K p el hd sp as ls hs h r) _ := .there (.there (.there (.there (.there hp))))
          exact Lg.isT (Lg.tst (Lg.niSt [.listen, .synCome, .closed] (Lg.r_state EF (Lg.var (n := 3) rfl) hp3) (Lg.tup_ (Lg.cons_ (Lg.cSt .listen) (Lg.cons_ (Lg.cSt .synCome) (Lg.cons_ (Lg.cSt .closed) Lg.nil_))) (sz rfl)))) (by rw [hst]; rfl)
        · exact (Lg.var (n := 3) rfl)
        refine Lg.g_no (Lg.tNot_ (Lg.truL (Lg.var (n := 2) rfl))) rfl ?_
        refine Lg.g_remF (Lg.getK (Lg.raw_fld (d := .ref hd) HF.ch (HF.nh _ (by simp)) (Lg.var (n := 0) rfl) .here (by kernel_rfl)) (Lg.var (n := 1) rfl) (.there (.there .here)) g1) (a := q) (as := qs) (Lg.ixL (n := 0) (Lg.var (n := 2) rfl) Lg.cInt rfl) (.there (.there (.there (.there (Lg.put_app (g2 r) _))))) ?_
        rw [← Lg.subH_fst (p := port) (hs := hs)]
        refine Lg.g_closeA (hs := Lg.subH hs port) hl (hl2.trans Lg.subH_len.symm) ?_
        exact Lg.g_ret (d := .ref q) (Lg.ixL (n := 0) (Lg.var (n := 2) rfl) Lg.cInt rfl) rfl (k p)
    · refine Lg.g_openA (fun el hd sp ls hl hl2 => ?_)
      refine Lg.g_when (Lg.tst (Lg.niK (Lg.var (n := 1) rfl) (Lg.raw_fld (d := .ref hd) HF.ch (HF.nh _ (by simp)) (Lg.var (n := 0) rfl) .here (by kernel_rfl)) (.there (.there .here)))) (fun _ => Lg.g_closeA hl hl2 (Lg.g_raise k)) (fun h1 => ?_)
      rw [Lg.heard_is hl2, his] at h1
      cases h1
theorem sc_past : FnScope ["number", "base"] ["number", "base"] (defScope s_past) := ⟨rfl, rfl, rfl, by decide +kernel, rfl, by decide +kernel, by decide +kernel⟩
theorem d_past (T : Tx fa fn ex w K mg) : Df P w K mg base CX0 2 "past" ["number", "base"] (SpO p_past) := by
  refine df_mk T 18 23 rfl rfl sc_past (fun kV doc pm an cdv ct us hl => match us, hl with | [_, _], _ => rfl) (fun vs H Q E h => ?_) (fun f cdv A outer s H vs Q E hr h => ?_)
  · obtain ⟨v, ⟨a, b, rfl, rfl⟩, k⟩ := h
    rfl
  · obtain ⟨v, ⟨a, b, rfl, rfl⟩, k⟩ := h
    refine ⟨_, PSs.nox (pss_one (ps_ret (pe_cmpR op_gt (pe_df (d_offset T) (hr.mono (by decide)) (pa_cons (pv 0) (pa_cons (pv 1) pa_nil))) pe_int (nomark _)))), ?_⟩
    exact s_ret (ev_i0 (ev_call (ea_cons (ev_var rfl) (ea_cons (ev_var rfl) ea_nil)) spv_offset) ev_c) k
theorem sc_sum_of : FnScope ["row"] ["row"] (defScope s_sum_of) := ⟨rfl, rfl, rfl, by decide +kernel, rfl, by decide +kernel, by decide +kernel⟩
theorem d_sum_of (T : Tx fa fn ex w K mg) : Df P w K mg base CX0 2 "sum_of" ["row"] (SpO (p_sum_of K)) := by
  refine df_mk T 19 24 rfl rfl sc_sum_of (fun kV doc pm an cdv ct us hl => match us, hl with | [_], _ => rfl) (fun vs H Q E h => ?_) (fun f cdv A outer s H vs Q E hr h => ?_)
  · obtain ⟨v, ⟨a, ns, rfl, hS, hz, rfl⟩, k⟩ := h
    rfl
  · obtain ⟨v, ⟨a, ns, rfl, hS, hz, rfl⟩, k⟩ := h
    refine ⟨_, PSs.nox (pss_one (ps_ret (pe_op op_sub pe_int (pe_df (d_folded T) (hr.mono (by decide)) (pa_cons (pv 0) pa_nil))))), ?_⟩
    exact s_ret (ev_i0 ev_c (ev_call (ea_cons (ev_var rfl) ea_nil) (spv_folded hS hz))) k
theorem sc_four : FnScope ["number"] ["number"] (defScope s_four) := ⟨rfl, rfl, rfl, by decide +kernel, rfl, by decide +kernel, by decide +kernel⟩
theorem d_four (T : Tx fa fn ex w K mg) : Df P w K mg base CX0 2 "four" ["number"] (SpLi p_four) := by
  refine df_mk T 20 25 rfl rfl sc_four (fun kV doc pm an cdv ct us hl => match us, hl with | [_], _ => rfl) (fun vs H Q E h => ?_) (fun f cdv A outer s H vs Q E hr h => ?_)
  · obtain ⟨v, ⟨n, rfl, rfl⟩, k⟩ := h
    rfl
  · obtain ⟨v, ⟨n, rfl, rfl⟩, k⟩ := h
    refine ⟨_, PSs.nox (pss_one (ps_ret (pe_op op_cat (pe_df (d_two T) (hr.mono (by decide)) (pa_cons (pe_op op_fdivW (pv 0) pe_int) pa_nil)) (pe_df (d_two T) (hr.mono (by decide)) (pa_cons (pe_op op_mod (pv 0) pe_int) pa_nil))))), ?_⟩
    exact s_retL (el_catI (el_call (ea_cons (ev_iC ⟨by decide, by decide⟩ (ev_var rfl) ev_c) ea_nil) spl_two) (el_call (ea_cons (ev_iC (by decide) (ev_var rfl) ev_c) ea_nil) spl_two) (sz rfl)) k
theorem sc_length : FnScope ["segment"] ["segment"] (defScope s_length) := ⟨rfl, rfl, rfl, by decide +kernel, rfl, by decide +kernel, by decide +kernel⟩
theorem d_length (T : Tx fa fn ex w K mg) : Df P w K mg base CX0 2 "length" ["segment"] (Lg.SpG K (Lg.RP Lg.f_length)) := by
  refine Lg.df_mkG T 21 29 rfl rfl sc_length (fun kV doc pm an cdv ct us hl => match us, hl with | [_], _ => rfl) (fun l rs d rs' h => ?_) (fun f cdv A outer s H E0 hr => ⟨_, PSs.nox (pss_one (ps_ret (pe_op op_add (pe_op op_add (pe_callB call_len_seq (by rfl) (T.free 10) PySem.boot_len (pa_cons (pe_ix ix_tup (pv 0) pe_int (fun _ _ => rfl)) pa_nil)) (pe_callTy call_int1 (by rfl) (T.free 27) (by decide +kernel) (pa_cons (pe_df (d_has T) (hr.mono (by decide)) (pa_cons (pv 0) (pa_cons (pe_gi (T.int 26)) pa_nil))) pa_nil))) (pe_callTy call_int1 (by rfl) (T.free 27) (by decide +kernel) (pa_cons (pe_df (d_has T) (hr.mono (by decide)) (pa_cons (pv 0) (pa_cons (pe_gi (T.int 28)) pa_nil))) pa_nil))))), fun F l rs d rs' Q h k => ?_⟩)
  · obtain ⟨⟨s0, rfl, rfl⟩, rfl⟩ := h
    rfl
  · obtain ⟨⟨s0, rfl, rfl⟩, rfl⟩ := h
    exact Lg.g_ret (Lg.is_ (Lg.iI (Lg.iI (Lg.lenTi (Lg.ixT (n := 7) (Lg.var (n := 0) rfl) Lg.cInt rfl)) (Lg.intB (Lg.call (Lg.cons_ (Lg.var (n := 0) rfl) (Lg.cons_ Lg.cInt Lg.nil_)) ⟨⟨_, _, rfl, ⟨by decide, by decide⟩, rfl⟩, rfl⟩))) (Lg.intB (Lg.call (Lg.cons_ (Lg.var (n := 0) rfl) (Lg.cons_ Lg.cInt Lg.nil_)) ⟨⟨_, _, rfl, ⟨by decide, by decide⟩, rfl⟩, rfl⟩))) (by first | rfl | (simp only [M.length, ↓reduceIte, Bool.false_eq_true, if_false, if_true] <;> rfl))) rfl k
theorem sc_hear_syn : FnScope ["end", "segment"] ["end", "segment"] (defScope s_hear_syn) := ⟨rfl, rfl, rfl, by decide +kernel, rfl, by decide +kernel, by decide +kernel⟩
theorem d_hear_syn (T : Tx fa fn ex w K mg) : Df P w K mg base CX0 2 "hear_syn" ["end", "segment"] (Lg.SpG K (Lg.RE K Lg.R_hear_syn)) := by
  refine Lg.df_mkG T 22 30 rfl rfl sc_hear_syn (fun kV doc pm an cdv ct us hl => match us, hl with | [_, _], _ => rfl) (fun l rs d rs' h => ?_) (fun f cdv A outer s H E0 hr => ⟨_, PSs.nox (pss_cons (ps_fld (pv 0) (pe_df (d_plus T) (hr.mono (by decide)) (pa_cons (pe_ix ix_tup (pv 1) pe_int (fun _ _ => rfl)) (pa_cons pe_int pa_nil))) rfl)
      (pss_cons (ps_expr (pe_df (d_hear_window T) (hr.mono (by decide)) (pa_cons (pv 0) (pa_cons (pv 1) pa_nil))))
      (pss_one (ps_if (pt_cmpR op_gt (pe_ix ix_tup (pv 1) pe_int (fun _ _ => rfl)) pe_int (nomark _)) (pss_one (ps_fld (pv 0) (pe_ix ix_tup (pv 1) pe_int (fun _ _ => rfl)) rfl)) pss_nil)))), fun F l rs d rs' Q h k => ?_⟩)
  · obtain ⟨p, e, _, r, _, rfl, rfl, ⟨s, rfl, rfl, rfl⟩, rfl⟩ := h
    rfl
  · obtain ⟨p, e, _, r, _, rfl, rfl, ⟨s, rfl, rfl, rfl⟩, rfl⟩ := h
    have EF := EFT T
    refine Lg.w_rcv EF (Lg.c_plus (Lg.cons_ (Lg.ixT (n := 2) (Lg.var (n := 1) rfl) Lg.cInt rfl) (Lg.cons_ Lg.cInt Lg.nil_))) (Lg.var (n := 0) rfl) .here ?_
    refine Lg.g_drop (Lg.callE (Lg.cons_ (Lg.var (n := 0) rfl) (Lg.cons_ (Lg.var (n := 1) rfl) Lg.nil_)) .here ⟨_, rfl, rfl, rfl⟩) ?_
    refine Lg.g_when1 (Lg.tst (Lg.iB (Lg.ixT (n := 6) (Lg.var (n := 1) rfl) Lg.cInt rfl) Lg.cInt)) (fun h1 => ?_) (fun h1 => ?_)
    · refine Lg.w1_most EF (Lg.ixT (n := 6) (Lg.var (n := 1) rfl) Lg.cInt rfl) (Lg.var (n := 0) rfl) .here ?_
      rw [show E.hear_syn e s = _ from (if_pos h1)] at k; exact Lg.g_end rfl k
    · rw [show E.hear_syn e s = _ from (if_neg (M.fne h1))] at k; exact Lg.g_end rfl k
theorem sc_out_of_place : FnScope ["end", "segment", "now"] ["end", "segment", "now"] (defScope s_out_of_place) := ⟨rfl, rfl, rfl, by decide +kernel, rfl, by decide +kernel, by decide +kernel⟩
theorem d_out_of_place (T : Tx fa fn ex w K mg) : Df P w K mg base CX0 2 "out_of_place" ["end", "segment", "now"] (Lg.SpG K (Lg.RE K Lg.R_out_of_place)) := by
  refine Lg.df_mkG T 23 34 rfl rfl sc_out_of_place (fun kV doc pm an cdv ct us hl => match us, hl with | [_, _, _], _ => rfl) (fun l rs d rs' h => ?_) (fun f cdv A outer s H E0 hr => ⟨_, PSs.nox (pss_cons (ps_if (pt_val (pe_df (d_has T) (hr.mono (by decide)) (pa_cons (pv 1) (pa_cons (pe_gi (T.int 31)) pa_nil)))) (pss_one (ps_ret pe_non)) pss_nil)
      (pss_cons (ps_if (PW.pt (pw_and (pt_cmpR op_eq (pe_fld (pv 0) rfl) (pe_gs (T.str 22)) (nomark _)) (pw_and (pt_val (pe_df (d_has T) (hr.mono (by decide)) (pa_cons (pv 1) (pa_cons (pe_gi (T.int 26)) pa_nil)))) (pw_and1 (pt_not (pt_val (pe_df (d_has T) (hr.mono (by decide)) (pa_cons (pv 1) (pa_cons (pe_gi (T.int 32)) pa_nil))))))))) (pss_one (ps_fld (pv 0) pe_bl rfl)) (pss_one (ps_fld (pv 0) pe_bl rfl)))
      (pss_cons (ps_if (pt_cmpR op_eq (pe_fld (pv 0) rfl) (pe_gs (T.str 33)) (nomark _)) (pss_one (ps_fld (pv 0) (pv 2) rfl)) pss_nil)
      (pss_one (ps_ret pe_non))))), fun F l rs d rs' Q h k => ?_⟩)
  · obtain ⟨p, e, _, r, _, rfl, rfl, ⟨s, now, rfl, rfl, rfl⟩, rfl⟩ := h
    rfl
  · obtain ⟨p, e, _, r, _, rfl, rfl, ⟨s, now, rfl, rfl, rfl⟩, rfl⟩ := h
    have EF := EFT T
    refine Lg.g_when (Lg.tstB (Lg.call (Lg.cons_ (Lg.var (n := 1) rfl) (Lg.cons_ Lg.cInt Lg.nil_)) ⟨⟨_, _, rfl, ⟨by decide, by decide⟩, rfl⟩, rfl⟩)) (fun h1 => ?_) (fun h1 => ?_)
    · rw [show E.out_of_place e s now = _ from (if_pos h1)] at k; exact Lg.g_ret Lg.cNon rfl k
    · refine Lg.g_if (Lg.tAnd_ (Lg.tst (Lg.eqSt (Lg.r_state EF (Lg.var (n := 0) rfl) .here) (Lg.cSt .synCome))) (fun hc1 => (Lg.tAnd_ (Lg.tstB (Lg.call (Lg.cons_ (Lg.var (n := 1) rfl) (Lg.cons_ Lg.cInt Lg.nil_)) ⟨⟨_, _, rfl, ⟨by decide, by decide⟩, rfl⟩, rfl⟩)) (fun hc2 => (Lg.tNot_ (Lg.tstB (Lg.call (Lg.cons_ (Lg.var (n := 1) rfl) (Lg.cons_ Lg.cInt Lg.nil_)) ⟨⟨_, _, rfl, ⟨by decide, by decide⟩, rfl⟩, rfl⟩))))))) (fun h2 => ?_) (fun h2 => ?_)
      · refine Lg.w1_owes_syn EF Lg.cBl (Lg.var (n := 0) rfl) .here ?_
        refine Lg.g_next ?_
        refine Lg.g_when (Lg.tst (Lg.eqSt (Lg.r_state EF (Lg.var (n := 0) rfl) .here) (Lg.cSt .timeWait))) (fun h3 => ?_) (fun h3 => ?_)
        · refine Lg.w1_since EF (Lg.var (n := 2) rfl) (Lg.var (n := 0) rfl) .here ?_
          refine Lg.g_next ?_
          rw [show E.out_of_place e s now = _ from ((if_neg (M.fne h1)).trans ((if_pos h2).trans (if_pos h3)))] at k; exact Lg.g_ret Lg.cNon rfl k
        · rw [show E.out_of_place e s now = _ from ((if_neg (M.fne h1)).trans ((if_pos h2).trans (if_neg (M.fne h3))))] at k; exact Lg.g_ret Lg.cNon rfl k
      · refine Lg.w1_owes_answer EF Lg.cBl (Lg.var (n := 0) rfl) .here ?_
        refine Lg.g_next ?_
        refine Lg.g_when (Lg.tst (Lg.eqSt (Lg.r_state EF (Lg.var (n := 0) rfl) .here) (Lg.cSt .timeWait))) (fun h3 => ?_) (fun h3 => ?_)
        · refine Lg.w1_since EF (Lg.var (n := 2) rfl) (Lg.var (n := 0) rfl) .here ?_
          refine Lg.g_next ?_
          rw [show E.out_of_place e s now = _ from ((if_neg (M.fne h1)).trans ((if_neg (M.fne h2)).trans (if_pos h3)))] at k; exact Lg.g_ret Lg.cNon rfl k
        · rw [show E.out_of_place e s now = _ from ((if_neg (M.fne h1)).trans ((if_neg (M.fne h2)).trans (if_neg (M.fne h3))))] at k; exact Lg.g_ret Lg.cNon rfl k
theorem sc_reset_comes : FnScope ["end", "segment"] ["end", "segment"] (defScope s_reset_comes) := ⟨rfl, rfl, rfl, by decide +kernel, rfl, by decide +kernel, by decide +kernel⟩
theorem d_reset_comes (T : Tx fa fn ex w K mg) : Df P w K mg base CX0 2 "reset_comes" ["end", "segment"] (Lg.SpG K (Lg.RE K Lg.R_reset_comes)) := by
  refine Lg.df_mkG T 24 35 rfl rfl sc_reset_comes (fun kV doc pm an cdv ct us hl => match us, hl with | [_, _], _ => rfl) (fun l rs d rs' h => ?_) (fun f cdv A outer s H E0 hr => ⟨_, PSs.nox (pss_cons (ps_if (pt_cmpR op_eq (pe_fld (pv 0) rfl) (pe_gs (T.str 33)) (nomark _)) (pss_one (ps_ret pe_non)) pss_nil)
      (pss_cons (ps_if (pt_cmpR op_eq (pe_ix ix_tup (pv 1) pe_int (fun _ _ => rfl)) (pe_fld (pv 0) rfl) (nomark _)) (pss_one (ps_expr (pe_df (d_shut T) (hr.mono (by decide)) (pa_cons (pv 0) (pa_cons pe_str pa_nil))))) (pss_one (ps_fld (pv 0) pe_bl rfl)))
      (pss_one (ps_ret pe_non)))), fun F l rs d rs' Q h k => ?_⟩)
  · obtain ⟨p, e, _, r, _, rfl, rfl, ⟨s, rfl, rfl, rfl⟩, rfl⟩ := h
    rfl
  · obtain ⟨p, e, _, r, _, rfl, rfl, ⟨s, rfl, rfl, rfl⟩, rfl⟩ := h
    have EF := EFT T
    refine Lg.g_when (Lg.tst (Lg.eqSt (Lg.r_state EF (Lg.var (n := 0) rfl) .here) (Lg.cSt .timeWait))) (fun h1 => ?_) (fun h1 => ?_)
    · rw [show E.reset_comes e s = _ from (if_pos h1)] at k; exact Lg.g_ret Lg.cNon rfl k
    · refine Lg.g_if (Lg.tst (Lg.eqI (Lg.ixT (n := 2) (Lg.var (n := 1) rfl) Lg.cInt rfl) (Lg.r_rcv EF (Lg.var (n := 0) rfl) .here))) (fun h2 => ?_) (fun h2 => ?_)
      · refine Lg.g_drop1 (Lg.callE (Lg.cons_ (Lg.var (n := 0) rfl) (Lg.cons_ (Lg.cEt .reset) Lg.nil_)) .here ⟨_, rfl, rfl, rfl⟩) ?_
        refine Lg.g_next ?_
        rw [show E.reset_comes e s = _ from ((if_neg (M.fne h1)).trans (if_pos h2))] at k; exact Lg.g_ret Lg.cNon rfl k
      · refine Lg.w1_owes_answer EF Lg.cBl (Lg.var (n := 0) rfl) .here ?_
        refine Lg.g_next ?_
        rw [show E.reset_comes e s = _ from ((if_neg (M.fne h1)).trans (if_neg (M.fne h2)))] at k; exact Lg.g_ret Lg.cNon rfl k
theorem sc_all_heard : FnScope ["end", "now"] ["end", "now"] (defScope s_all_heard) := ⟨rfl, rfl, rfl, by decide +kernel, rfl, by decide +kernel, by decide +kernel⟩
theorem d_all_heard (T : Tx fa fn ex w K mg) : Df P w K mg base CX0 2 "all_heard" ["end", "now"] (Lg.SpG K (Lg.RE K Lg.R_all_heard)) := by
  refine Lg.df_mkG T 25 40 rfl rfl sc_all_heard (fun kV doc pm an cdv ct us hl => match us, hl with | [_, _], _ => rfl) (fun l rs d rs' h => ?_) (fun f cdv A outer s H E0 hr => ⟨_, PSs.nox (pss_one (ps_if (pt_cmpR op_eq (pe_fld (pv 0) rfl) (pe_gs (T.str 36)) (nomark _)) (pss_one (ps_fld (pv 0) (pe_gs (T.str 37)) rfl)) (pss_one (ps_if (pt_cmpR op_eq (pe_fld (pv 0) rfl) (pe_gs (T.str 38)) (nomark _)) (pss_cons (ps_fld (pv 0) (pe_gs (T.str 33)) rfl)
      (pss_one (ps_fld (pv 0) (pv 1) rfl))) (pss_one (ps_if (pt_cmpR op_eq (pe_fld (pv 0) rfl) (pe_gs (T.str 39)) (nomark _)) (pss_one (ps_expr (pe_df (d_shut T) (hr.mono (by decide)) (pa_cons (pv 0) (pa_cons pe_str pa_nil))))) pss_nil)))))), fun F l rs d rs' Q h k => ?_⟩)
  · obtain ⟨p, e, _, r, _, rfl, rfl, ⟨now, rfl, rfl, rfl⟩, rfl⟩ := h
    rfl
  · obtain ⟨p, e, _, r, _, rfl, rfl, ⟨now, rfl, rfl, rfl⟩, rfl⟩ := h
    have EF := EFT T
    refine Lg.g_if1 (Lg.tst (Lg.eqSt (Lg.r_state EF (Lg.var (n := 0) rfl) .here) (Lg.cSt .waitOne))) (fun h1 => ?_) (fun h1 => ?_)
    · refine Lg.w1_state EF (Lg.cSt .waitTwo) (Lg.var (n := 0) rfl) .here ?_
      rw [show E.all_heard e now = _ from (if_pos h1)] at k; exact Lg.g_end rfl k
    · refine Lg.g_if1 (Lg.tst (Lg.eqSt (Lg.r_state EF (Lg.var (n := 0) rfl) .here) (Lg.cSt .closing))) (fun h2 => ?_) (fun h2 => ?_)
      · refine Lg.w_state EF (Lg.cSt .timeWait) (Lg.var (n := 0) rfl) .here ?_
        refine Lg.w1_since EF (Lg.var (n := 1) rfl) (Lg.var (n := 0) rfl) .here ?_
        rw [show E.all_heard e now = _ from ((if_neg (M.fne h1)).trans (if_pos h2))] at k; exact Lg.g_end rfl k
      · refine Lg.g_when1 (Lg.tst (Lg.eqSt (Lg.r_state EF (Lg.var (n := 0) rfl) .here) (Lg.cSt .lastAck))) (fun h3 => ?_) (fun h3 => ?_)
        · refine Lg.g_drop1 (Lg.callE (Lg.cons_ (Lg.var (n := 0) rfl) (Lg.cons_ (Lg.cEt .none) Lg.nil_)) .here ⟨_, rfl, rfl, rfl⟩) ?_
          rw [show E.all_heard e now = _ from ((if_neg (M.fne h1)).trans ((if_neg (M.fne h2)).trans (if_pos h3)))] at k; exact Lg.g_end rfl k
        · rw [show E.all_heard e now = _ from ((if_neg (M.fne h1)).trans ((if_neg (M.fne h2)).trans (if_neg (M.fne h3))))] at k; exact Lg.g_end rfl k
theorem sc_write : FnScope ["end", "row", "many"] ["end", "row"] (defScope s_write) := ⟨rfl, rfl, rfl, by decide +kernel, rfl, by decide +kernel, by decide +kernel⟩
theorem d_write (T : Tx fa fn ex w K mg) : Df P w K mg base CX0 2 "write" ["end", "row"] (Lg.SpG K (Lg.RE K Lg.R_write)) := by
  refine Lg.df_mkG T 26 43 rfl rfl sc_write (fun kV doc pm an cdv ct us hl => match us, hl with | [_, _], _ => rfl) (fun l rs d rs' h => ?_) (fun f cdv A outer s H E0 hr => ⟨_, PSs.nox (pss_cons (ps_if (PW.pt (pw_or (pt_cmpR op_notIn_seq (pe_fld (pv 0) rfl) (pe_gr (T.glo 41)) (by rfl)) (pw_or1 (pt_truth (pe_fld (pv 0) rfl) (fun _ => rfl))))) (pss_one (ps_ret pe_int)) pss_nil)
      (pss_cons (ps_set (i := 2) sc_write.nd rfl (Or.inl rfl) (pe_callB (call_min2 rfl) (by rfl) (T.free 42) (by decide +kernel) (pa_cons (pe_callB call_len_seq (by rfl) (T.free 10) PySem.boot_len (pa_cons (pv 1) pa_nil)) (pa_cons (pe_op op_sub (pe_gi (T.int 18)) (pe_callB call_len_seq (by rfl) (T.free 10) PySem.boot_len (pa_cons (pe_fld (pv 0) rfl) pa_nil))) pa_nil))))
      (pss_cons (ps_fld (pv 0) (pe_op op_cat (pe_fld (pv 0) rfl) (pe_slice sl_list (pv 1) po_none (po_some (pv 2)))) rfl)
      (pss_one (ps_ret (pv 2)))))), fun F l rs d rs' Q h k => ?_⟩)
  · obtain ⟨p, e, _, r, _, rfl, rfl, ⟨row, rfl, hr1, hz, rfl, rfl⟩, rfl⟩ := h
    rfl
  · obtain ⟨p, e, _, r, _, rfl, rfl, ⟨row, rfl, hr1, hz, rfl, rfl⟩, rfl⟩ := h
    have EF := EFT T
    refine Lg.g_when (Lg.tOr_ (Lg.tst (Lg.niSt [.synSent, .synCome, .opn, .closeWait] (Lg.r_state EF (Lg.var (n := 0) rfl) .here) (Lg.gTup (GT_WRITING T)))) (fun hc1 => (Lg.truB (Lg.r_fin EF (Lg.var (n := 0) rfl) .here)))) (fun h1 => ?_) (fun h1 => ?_)
    · rw [show E.write e row = _ from (if_pos h1)] at k; exact Lg.g_ret Lg.cInt rfl k
    · refine Lg.g_asg (ii := 2) (Lg.min2 (Lg.lenLi (Lg.var (n := 1) rfl)) (Lg.iI Lg.cInt (Lg.lenLi (Lg.r_out EF (Lg.var (n := 0) rfl) .here)))) ?_
      refine Lg.w_out EF (Lg.catLi (Lg.r_out EF (Lg.var (n := 0) rfl) .here) (Lg.slLi (Lg.var (n := 1) rfl) Lg.oNo (Lg.oYes (Lg.var (n := 2) rfl))) (by have := hz.out; have := M.sl_len row none (some (M.mn (row.length : Int) (64 - (e.out.length : Int)))); omega)) (Lg.var (n := 0) rfl) .here ?_
      rw [show E.write e row = _ from (if_neg (M.fne h1))] at k; exact Lg.g_ret (Lg.var (n := 2) rfl) rfl k
theorem sc_read : FnScope ["end", "many", "shut_before", "found"] ["end", "many"] (defScope s_read) := ⟨rfl, rfl, rfl, by decide +kernel, rfl, by decide +kernel, by decide +kernel⟩
theorem d_read (T : Tx fa fn ex w K mg) : Df P w K mg base CX0 2 "read" ["end", "many"] (Lg.SpG K (Lg.RE K Lg.R_read)) := by
  refine Lg.df_mkG T 27 45 rfl rfl sc_read (fun kV doc pm an cdv ct us hl => match us, hl with | [_, _], _ => rfl) (fun l rs d rs' h => ?_) (fun f cdv A outer s H E0 hr => ⟨_, PSs.nox (pss_cons (ps_set (i := 2) sc_read.nd rfl (Or.inl rfl) (pe_cmpR op_eq (C8.pe_mt0 (m_Pile_room T) hr (by decide) (pe_fld (pv 0) rfl)) pe_int (nomark _)))
      (pss_cons (ps_set (i := 3) sc_read.nd rfl (Or.inl rfl) (C8.pe_mt (m_Pile_taken T) hr (by decide) (pe_fld (pv 0) rfl) (pa_cons (pv 1) pa_nil)))
      (pss_cons (ps_if (PW.pt (pw_and (pt_truth (pv 2) (fun _ => rfl)) (pw_and (pt_cmpR op_gt (C8.pe_mt0 (m_Pile_room T) hr (by decide) (pe_fld (pv 0) rfl)) pe_int (nomark _)) (pw_and1 (pt_cmpR op_in_seq (pe_fld (pv 0) rfl) (pe_tup (pa_cons (pe_gs (T.str 44)) (pa_cons (pe_gs (T.str 36)) (pa_cons (pe_gs (T.str 37)) pa_nil)))) rfl))))) (pss_one (ps_fld (pv 0) pe_bl rfl)) pss_nil)
      (pss_one (ps_ret (pv 3)))))), fun F l rs d rs' Q h k => ?_⟩)
  · obtain ⟨p, e, _, r, _, rfl, rfl, ⟨many, rfl, rfl, rfl⟩, rfl⟩ := h
    rfl
  · obtain ⟨p, e, _, r, _, rfl, rfl, ⟨many, rfl, rfl, rfl⟩, rfl⟩ := h
    have EF := EFT T
    refine Lg.g_asg (ii := 2) (Lg.eqI (Lg.pileE EF (Lg.var (n := 0) rfl) .here (fun rs' => Lg.nil_) (fun q hl el => by kernel_rfl) ⟨rfl, rfl, rfl⟩) Lg.cInt) ?_
    refine Lg.g_asg (ii := 3) (Lg.pileE EF (Lg.var (n := 0) rfl) .here (fun rs' => (Lg.cons_ (Lg.var (n := 1) rfl) Lg.nil_)) (fun q hl el => by kernel_rfl) ⟨_, rfl, rfl, rfl⟩) ?_
    refine Lg.g_when (Lg.tAnd_ (Lg.truB (Lg.var (n := 2) rfl)) (fun hc1 => (Lg.tAnd_ (Lg.tst (Lg.iB (Lg.pileE EF (Lg.var (n := 0) rfl) .here (fun rs' => Lg.nil_) (fun q hl el => by kernel_rfl) ⟨rfl, rfl, rfl⟩) Lg.cInt)) (fun hc2 => (Lg.tst (Lg.inSt [.opn, .waitOne, .waitTwo] (Lg.r_state EF (Lg.var (n := 0) rfl) .here) (Lg.tup_ (Lg.cons_ (Lg.cSt .opn) (Lg.cons_ (Lg.cSt .waitOne) (Lg.cons_ (Lg.cSt .waitTwo) Lg.nil_))) (sz rfl)))))))) (fun h1 => ?_) (fun h1 => ?_)
    · refine Lg.w1_owes_answer EF Lg.cBl (Lg.var (n := 0) rfl) .here ?_
      refine Lg.g_next ?_
      rw [show E.read e many = _ from (if_pos h1)] at k; exact Lg.g_ret (Lg.var (n := 3) rfl) rfl k
    · rw [show E.read e many = _ from (if_neg (M.fne h1))] at k; exact Lg.g_ret (Lg.var (n := 3) rfl) rfl k
theorem sc_mix : FnScope ["_law_script", "_law_k", "_law_number"] ["_law_script", "_law_k"] (defScope s_mix) := ⟨rfl, rfl, rfl, by decide +kernel, rfl, by decide +kernel, by decide +kernel⟩
theorem d_mix (T : Tx fa fn ex w K mg) : Df P w K mg base CX0 2 "_law_mix" ["_law_script", "_law_k"] (SpO (p_mix K)) := by
  refine df_mk T 28 46 rfl rfl sc_mix (fun kV doc pm an cdv ct us hl => match us, hl with | [_, _], _ => rfl) (fun vs H Q E h => ?_) (fun f cdv A outer s H vs Q E hr h => ?_)
  · obtain ⟨v, ⟨a, ns, kk, rfl, hS, rfl⟩, k⟩ := h
    rfl
  · obtain ⟨v, ⟨a, ns, kk, rfl, hS, rfl⟩, k⟩ := h
    refine ⟨_, PSs.nox (pss_cons (ps_set (i := 2) sc_mix.nd rfl (Or.inl rfl) (pe_op op_mod (pe_op op_add (pe_df (d_cell T) (hr.mono (by decide)) (pa_cons (pv 0) (pa_cons (pv 1) pa_nil))) (pe_op op_mul pe_int (pe_op op_add (pv 1) pe_int))) pe_int))
      (pss_cons (ps_set (i := 2) sc_mix.nd rfl (Or.inl rfl) (pe_op op_mod (pe_op op_mul (pv 2) pe_int) pe_int))
      (pss_one (ps_ret (pe_op op_mod (pe_op op_add (pe_op op_mul (pe_op op_fdivW (pv 2) pe_int) pe_int) (pv 2)) pe_int))))), ?_⟩
    refine q_asg (i := 2) (ev_iC (by decide) (ev_i0 (ev_call (ea_cons (ev_var rfl) (ea_cons (ev_var rfl) ea_nil)) (spv_cell hS)) (ev_iC (.inl ⟨by decide, by decide⟩) ev_c (ev_i0 (ev_var rfl) ev_c))) ev_c) (fun H1 e1 => ?_)
    refine q_asg (i := 2) (ev_iC (by decide) (ev_iC (.inr ⟨by decide, by decide⟩) (ev_var rfl) ev_c) ev_c) (fun H2 e2 => ?_)
    exact s_ret (ev_iC (by decide) (ev_i0 (ev_iC (.inr ⟨by decide, by decide⟩) (ev_iC ⟨by decide, by decide⟩ (ev_var rfl) ev_c) ev_c) (ev_var rfl)) ev_c) (fun H3 e3 => k _ ((e1.trans e2).trans e3))
theorem sc_Pile_keep : FnScope ["self", "far", "data", "space", "k"] ["self", "far", "data"] (defScope s_Pile_keep) := ⟨rfl, rfl, rfl, by decide +kernel, rfl, by decide +kernel, by decide +kernel⟩
theorem m_Pile_keep (T : Tx fa fn ex w K mg) : C8.Met P w K mg base 2 (He.ga K "Pile") "keep" (Lg.SpG K (Lg.RQ K Lg.Q_keep)) [] := by
  refine Lg.met_of (EFT T).cp (ME T "keep" (by simp)) (Lg.ok_mkG (c := ("Pile", some "keep")) T 29 rfl sc_Pile_keep (fun kV doc pm an cdv ct us hl => match us, hl with | [_, _, _], _ => rfl) (fun l rs d rs' h => ?_) (fun f cdv A outer s H E0 hr => ⟨_, (pss_cons (ps_set (i := 3) sc_Pile_keep.nd rfl (Or.inl rfl) (C8.pe_mt0 (m_Pile_room T) hr (by decide) (pv 0)))
      (pss_cons (ps_for PassesOwn.never rfl (pi_range1 rfl (T.free 9) (pa_cons (pe_callB call_len_seq (by rfl) (T.free 10) PySem.boot_len (pa_cons (pv 2) pa_nil)) pa_nil)) (pg_name (i := 4) sc_Pile_keep.nd rfl (Or.inl rfl)) (pss_one (ps_if (pt_chain op_le op_lt pe_int (pe_op op_add (pv 1) (pv 4)) (pv 3)) (pss_one (ps_expr (pe_dsetd (pe_fld (pv 0) rfl) (pe_op op_add (pe_op op_add (pe_fld (pv 0) rfl) (pv 1)) (pv 4)) (pe_ix ix_tup (pv 2) (pv 4) (fun _ _ => rfl)) ⟨rfl, rfl, rfl, rfl⟩))) pss_nil)))
      (pss_one (ps_ret pe_non)))), fun F l rs d rs' Q h k => ?_⟩))
  · obtain ⟨p, q, _, r, _, rfl, rfl, ⟨far, data, rfl, hz, hd, rfl, rfl⟩, rfl⟩ := h
    rfl
  · have EF := EFT T
    obtain ⟨p, q, _, r, _, rfl, rfl, ⟨far, data, rfl, hz, hd, rfl, rfl⟩, rfl⟩ := h
    refine Lg.g_asg (ii := 3) (Lg.pileQ (Lg.var (n := 0) rfl) .here (fun rs' => Lg.nil_) (fun q hl el => by kernel_rfl) ⟨rfl, rfl, rfl⟩) ?_
    refine Lg.g_forR1 (ii := 4) (Lg.cons_ (Lg.lenTi (Lg.var (n := 2) rfl)) Lg.nil_) ⟨by omega, by omega⟩ (fun i ds rr => ∃ kv, ds = [some (.ref p), some (.int far), some (Lg.ti data), some (.int (M.room q)), kv] ∧ rr = Lg.pileR K p (M.keepN q far data i) :: r) ⟨none, rfl, rfl⟩ ?_ ?_
    · rintro i ds rr hi ⟨kv, rfl, rfl⟩
      have hl := M.keepN_len q far data i
      refine Lg.g_when1 (Lg.tst (Lg.ch Lg.cInt (Lg.iI (Lg.var (n := 1) rfl) (Lg.var (n := 4) rfl)) (Lg.var (n := 3) rfl))) (fun h1 => ?_) (fun h1 => ?_)
      · refine Lg.p_setd1 (pp := p) EF (Lg.var (n := 0) rfl) (fun dx hl el => Lg.iI (Lg.iI (Lg.ckCome EF (Lg.var rfl)) (Lg.var (n := 1) rfl)) (Lg.var (n := 4) rfl)) (fun rs' => (Lg.ixTi (Lg.var (n := 2) rfl) (Lg.var (n := 4) rfl) ⟨by omega, by omega⟩)) (by omega) (Lg.g_post rfl ⟨_, rfl, ?_⟩)
        rw [M.keepN_yes h1]
        rfl
      · exact Lg.g_post rfl ⟨_, rfl, by rw [M.keepN_no h1]⟩
    rintro ds rr ⟨kv, rfl, rfl⟩
    have e1 : M.keepN q far data (Int.toNat (data.length : Int)) = M.keep q far data := by rw [Int.toNat_natCast]; rfl
    rw [e1]
    exact Lg.g_ret Lg.cNon rfl k
theorem sc_Pile_keep_end : FnScope ["self", "far"] ["self", "far"] (defScope s_Pile_keep_end) := ⟨rfl, rfl, rfl, by decide +kernel, rfl, by decide +kernel, by decide +kernel⟩
theorem m_Pile_keep_end (T : Tx fa fn ex w K mg) : C8.Met P w K mg base 2 (He.ga K "Pile") "keep_end" (Lg.SpG K (Lg.RQ K Lg.Q_keep_end)) [] := by
  refine Lg.met_of (EFT T).cp (ME T "keep_end" (by simp)) (Lg.ok_mkG (c := ("Pile", some "keep_end")) T 30 rfl sc_Pile_keep_end (fun kV doc pm an cdv ct us hl => match us, hl with | [_, _], _ => rfl) (fun l rs d rs' h => ?_) (fun f cdv A outer s H E0 hr => ⟨_, (pss_cons (ps_if (PW.pt (pw_and (pt_chain op_le op_lt pe_int (pv 1) (C8.pe_mt0 (m_Pile_room T) hr (by decide) (pv 0))) (pw_and1 (pt_cmpR op_isN (pe_fld (pv 0) rfl) pe_non (nomark _))))) (pss_one (ps_fld (pv 0) (pe_op op_add (pe_fld (pv 0) rfl) (pv 1)) rfl)) pss_nil)
      (pss_one (ps_ret pe_non))), fun F l rs d rs' Q h k => ?_⟩))
  · obtain ⟨p, q, _, r, _, rfl, rfl, ⟨far, rfl, rfl, rfl⟩, rfl⟩ := h
    rfl
  · have EF := EFT T
    obtain ⟨p, q, _, r, _, rfl, rfl, ⟨far, rfl, rfl, rfl⟩, rfl⟩ := h
    refine Lg.g_when (Lg.tAnd_ (Lg.tst (Lg.ch Lg.cInt (Lg.var (n := 1) rfl) (Lg.pileQ (Lg.var (n := 0) rfl) .here (fun rs' => Lg.nil_) (fun q hl el => by kernel_rfl) ⟨rfl, rfl, rfl⟩))) (fun hc1 => (Lg.tst (Lg.isNon (Lg.pr_last EF (Lg.var (n := 0) rfl)) (fun _ _ => Lg.non_oi))))) (fun h1 => ?_) (fun h1 => ?_)
    · rw [show M.keep_end q far = _ from if_pos h1] at k
      exact Lg.pw_last EF (Lg.iI (Lg.pr_come EF (Lg.var (n := 0) rfl)) (Lg.var (n := 1) rfl)) (Lg.var (n := 0) rfl) (Lg.g_ret Lg.cNon rfl k)
    · rw [show M.keep_end q far = _ from if_neg (M.fne h1)] at k
      exact Lg.g_ret Lg.cNon rfl k
theorem sc_Host_next : FnScope ["self", "found"] ["self"] (defScope s_Host_next) := ⟨rfl, rfl, rfl, by decide +kernel, rfl, by decide +kernel, by decide +kernel⟩
theorem m_Host_next (T : Tx fa fn ex w K mg) : C8.Met P w K mg base 2 (He.ga K "Host") "next_first" (Lg.SpG K (Lg.R_nextA K)) [] := by
  refine Lg.met_of (HFT T).ch (HM T "next_first" (by simp)) (Lg.ok_mkG (c := ("Host", some "next_first")) T 31 rfl sc_Host_next (fun kV doc pm an cdv ct us hl => match us, hl with | [_], _ => rfl) (fun l rs d rs' h => ?_) (fun f cdv A outer s H E0 hr => ⟨_, (pss_cons (ps_set (i := 1) sc_Host_next.nd rfl (Or.inl rfl) (pe_fld (pv 0) rfl))
      (pss_cons (ps_fld (pv 0) (pe_df (d_plus T) (hr.mono (by decide)) (pa_cons (pe_fld (pv 0) rfl) (pa_cons (pe_gi (T.int 47)) pa_nil))) rfl)
      (pss_one (ps_ret (pv 1))))), fun F l rs d rs' Q h k => ?_⟩))
  · obtain ⟨p, as, hs, h, r, rfl, rfl, rfl, rfl⟩ := h
    rfl
  · have EF := EFT T
    have HF := HFT T
    obtain ⟨p, as, hs, h, r, rfl, rfl, rfl, rfl⟩ := h
    refine Lg.g_openA (fun el hd sp ls hl hl2 => ?_)
    refine Lg.g_asg (ii := 1) (Lg.raw_fld (d := .int h.first) HF.ch (HF.nh _ (by simp)) (Lg.var (n := 0) rfl) .here (by kernel_rfl)) ?_
    refine Lg.g_raw HF.ch (HF.nh _ (by simp)) (Nat.lt_of_le_of_lt (show _ ≤ 5 from Nat.le_refl _) (by decide)) (Lg.ev_X (Lg.c_plus (Lg.cons_ (Lg.raw_fld (d := .int h.first) HF.ch (HF.nh _ (by simp)) (Lg.var (n := 0) rfl) .here (by kernel_rfl)) (Lg.cons_ Lg.cInt Lg.nil_)))) rfl (fun a0 => ?_)
    refine Lg.g_rawE (fs' := Lg.hfs el hd sp (M.hfirst h)) (by kernel_rfl) ?_
    exact Lg.g_closeA (h := M.hfirst h) hl hl2 (Lg.g_ret (Lg.var (n := 1) rfl) rfl k)
theorem sc_Host_found : FnScope ["self", "ours", "theirs", "end"] ["self", "ours", "theirs"] (defScope s_Host_found) := ⟨rfl, rfl, rfl, by decide +kernel, rfl, by decide +kernel, by decide +kernel⟩
theorem m_Host_found (T : Tx fa fn ex w K mg) : C8.Met P w K mg base 2 (He.ga K "Host") "found_end" (Lg.SpG K (Lg.R_foundA K)) [] := by
  refine Lg.met_of (HFT T).ch (HM T "found_end" (by simp)) (Lg.ok_mkG (c := ("Host", some "found_end")) T 32 rfl sc_Host_found (fun kV doc pm an cdv ct us hl => match us, hl with | [_, _, _], _ => rfl) (fun l rs d rs' h => ?_) (fun f cdv A outer s H E0 hr => ⟨_, (pss_cons (ps_for PassesOwn.never rfl (pi_list (pe_fld (pv 0) rfl)) (pg_name (i := 3) sc_Host_found.nd rfl (Or.inl rfl)) (pss_one (ps_if (PW.pt (pw_and (pt_cmpR op_eq (pe_fld (pv 3) rfl) (pv 1) (nomark _)) (pw_and (pt_cmpR op_eq (pe_fld (pv 3) rfl) (pv 2) (nomark _)) (pw_and1 (pt_cmpR op_ne (pe_fld (pv 3) rfl) (pe_gs (T.str 6)) (nomark _)))))) (pss_one (ps_ret (pv 3))) pss_nil)))
      (pss_one (ps_ret pe_non))), fun F l rs d rs' Q h k => ?_⟩))
  · obtain ⟨p, as, hs, h, a, b, r, rfl, rfl, rfl, hR⟩ := h
    rfl
  · have EF := EFT T
    have HF := HFT T
    obtain ⟨p, as, hs, h, a, b, r, rfl, rfl, rfl, hR⟩ := h
    refine Lg.g_openA (fun el hd sp ls hl hl2 => ?_)
    refine Lg.g_forF (p := el) (as := as) (ii := 3) (Lg.raw_fld (d := .ref el) HF.ch (HF.nh _ (by simp)) (Lg.var (n := 0) rfl) .here (by kernel_rfl)) (fun i ds q => ∃ ev, (∀ (j : Nat) e', j < i → h.ends[j]? = some e' → M.hit a b e' = false) ∧ ds = [some (.ref p), some (.int a), some (.int b), ev] ∧ q = Lg.openA K p el hd sp as ls hs h r) ⟨none, fun j e' hj => absurd hj (Nat.not_lt_zero _), rfl, rfl⟩ (fun i ds q hq => ?_) ?_ ?_
    · obtain ⟨ev, _, _, rfl⟩ := hq
      exact ⟨_, .there .here⟩
    · rintro i a2 ds q hi ⟨ev, hbef, rfl, rfl⟩
      have hlt : i < h.ends.length := by
        rw [← hl]
        exact (List.getElem?_eq_some_iff.mp hi).1
      have he : h.ends[i]? = some h.ends[i] := List.getElem?_eq_getElem hlt
      obtain ⟨rest, hp⟩ := Lg.pick_nth (K := K) (r := Lg.lsR K ls hs ++ r) hi he
      have hp2 : Pick (Lg.endR K a2 h.ends[i]) (Lg.openA K p el hd sp as ls hs h r) _ := .there (.there (.there (.there hp)))
      refine Lg.g_when1 (Lg.tAnd_ (Lg.tst (Lg.eqI (Lg.r_ours EF (Lg.var (n := 3) rfl) hp2) (Lg.var (n := 1) rfl))) (fun hc1 => (Lg.tAnd_ (Lg.tst (Lg.eqI (Lg.r_theirs EF (Lg.var (n := 3) rfl) hp2) (Lg.var (n := 2) rfl))) (fun hc2 => (Lg.tst (Lg.neSt (Lg.r_state EF (Lg.var (n := 3) rfl) hp2) (Lg.cSt .closed))))))) (fun h1 => ?_) (fun h1 => ?_)
      · refine Lg.g_closeA hl hl2 ?_
        rcases hR with ⟨hno, rfl⟩ | ⟨i2, q2, e2, g1, g2, g3, g4, rfl⟩
        · have := hno _ (List.getElem_mem hlt)
          rw [show M.hit a b h.ends[i] = true from h1] at this
          cases this
        · have hii : i = i2 := by
            rcases Nat.lt_trichotomy i i2 with z | z | z
            · have := g4 i _ z he
              rw [show M.hit a b h.ends[i] = true from h1] at this
              cases this
            · exact z
            · have := hbef i2 _ z g2
              rw [g3] at this
              cases this
          subst hii
          rw [hi] at g1
          obtain rfl := Option.some.inj g1
          exact Lg.g_ret (Lg.var (n := 3) rfl) rfl k
      · refine Lg.g_post rfl ⟨_, fun j e' hj hje => ?_, rfl, rfl⟩
        by_cases z : j < i
        · exact hbef j e' z hje
        · obtain rfl : j = i := by omega
          rw [he] at hje
          obtain rfl := Option.some.inj hje
          exact h1
    rintro ds q ⟨ev, hbef, rfl, rfl⟩
    refine Lg.g_closeA hl hl2 ?_
    rcases hR with ⟨hno, rfl⟩ | ⟨i2, q2, e2, g1, g2, g3, g4, rfl⟩
    · exact Lg.g_ret Lg.cNon rfl k
    · have := hbef i2 _ (List.getElem?_eq_some_iff.mp g1).1 g2
      rw [g3] at this
      cases this
theorem sc_outstanding : FnScope ["end"] ["end"] (defScope s_outstanding) := ⟨rfl, rfl, rfl, by decide +kernel, rfl, by decide +kernel, by decide +kernel⟩
theorem d_outstanding (T : Tx fa fn ex w K mg) : Df P w K mg base CX0 3 "outstanding" ["end"] (Lg.SpG K (Lg.RE K Lg.R_outstanding)) := by
  refine Lg.df_mkG T 33 48 rfl rfl sc_outstanding (fun kV doc pm an cdv ct us hl => match us, hl with | [_], _ => rfl) (fun l rs d rs' h => ?_) (fun f cdv A outer s H E0 hr => ⟨_, PSs.nox (pss_one (ps_ret (pe_df (d_offset T) (hr.mono (by decide)) (pa_cons (pe_fld (pv 0) rfl) (pa_cons (pe_fld (pv 0) rfl) pa_nil))))), fun F l rs d rs' Q h k => ?_⟩)
  · obtain ⟨p, e0, _, r, e, rfl, rfl, ⟨rfl, rfl, rfl⟩, rfl⟩ := h
    rfl
  · obtain ⟨p, e0, _, r, e, rfl, rfl, ⟨rfl, rfl, rfl⟩, rfl⟩ := h
    have EF := EFT T
    exact Lg.g_ret (Lg.is_ (Lg.c_offset (Lg.cons_ (Lg.r_nxt EF (Lg.var (n := 0) rfl) .here) (Lg.cons_ (Lg.r_una EF (Lg.var (n := 0) rfl) .here) Lg.nil_))) (congrArg Lg.Da.int (show E.outstanding e = _ from rfl).symm)) rfl k
theorem sc_put : FnScope ["segment", "words", "row"] ["segment"] (defScope s_put) := ⟨rfl, rfl, rfl, by decide +kernel, rfl, by decide +kernel, by decide +kernel⟩
theorem d_put (T : Tx fa fn ex w K mg) : Df P w K mg base CX0 3 "put" ["segment"] (Lg.SpG K (Lg.RP Lg.f_put)) := by
  refine Lg.df_mkG T 34 49 rfl rfl sc_put (fun kV doc pm an cdv ct us hl => match us, hl with | [_], _ => rfl) (fun l rs d rs' h => ?_) (fun f cdv A outer s H E0 hr => ⟨_, PSs.nox (pss_cons (ps_set (i := 1) sc_put.nd rfl (Or.inl rfl) (pe_op op_add pe_int (pe_callTy call_int1 (by rfl) (T.free 27) (by decide +kernel) (pa_cons (pe_cmpR op_gt (pe_ix ix_tup (pv 0) pe_int (fun _ _ => rfl)) pe_int (nomark _)) pa_nil))))
      (pss_cons (ps_set (i := 2) sc_put.nd rfl (Or.inl rfl) (pe_op op_cat (pe_op op_cat (pe_op op_cat (pe_df (d_two T) (hr.mono (by decide)) (pa_cons (pe_ix ix_tup (pv 0) pe_int (fun _ _ => rfl)) pa_nil)) (pe_df (d_two T) (hr.mono (by decide)) (pa_cons (pe_ix ix_tup (pv 0) pe_int (fun _ _ => rfl)) pa_nil))) (pe_df (d_four T) (hr.mono (by decide)) (pa_cons (pe_ix ix_tup (pv 0) pe_int (fun _ _ => rfl)) pa_nil))) (pe_df (d_four T) (hr.mono (by decide)) (pa_cons (pe_ix ix_tup (pv 0) pe_int (fun _ _ => rfl)) pa_nil))))
      (pss_cons (ps_expr (pe_bm PySem.F.plainAttrs_list PySem.F.slot_list_extend PySem.F.type_list_extend mt_extend (pv 2) (pa_cons (pe_lst (pa_cons (pe_op op_mul (pv 1) pe_int) (pa_cons (pe_ix ix_tup (pv 0) pe_int (fun _ _ => rfl)) pa_nil))) pa_nil)))
      (pss_cons (ps_expr (pe_bm PySem.F.plainAttrs_list PySem.F.slot_list_extend PySem.F.type_list_extend mt_extend (pv 2) (pa_cons (pe_op op_cat (pe_df (d_two T) (hr.mono (by decide)) (pa_cons (pe_ix ix_tup (pv 0) pe_int (fun _ _ => rfl)) pa_nil)) (pe_lst (pa_cons pe_int (pa_cons pe_int (pa_cons pe_int (pa_cons pe_int pa_nil)))))) pa_nil)))
      (pss_cons (ps_if (pt_cmpR op_gt (pe_ix ix_tup (pv 0) pe_int (fun _ _ => rfl)) pe_int (nomark _)) (pss_one (ps_expr (pe_bm PySem.F.plainAttrs_list PySem.F.slot_list_extend PySem.F.type_list_extend mt_extend (pv 2) (pa_cons (pe_op op_cat (pe_lst (pa_cons pe_int (pa_cons pe_int pa_nil))) (pe_df (d_two T) (hr.mono (by decide)) (pa_cons (pe_ix ix_tup (pv 0) pe_int (fun _ _ => rfl)) pa_nil))) pa_nil)))) pss_nil)
      (pss_cons (ps_expr (pe_bm PySem.F.plainAttrs_list PySem.F.slot_list_extend PySem.F.type_list_extend mt_extendT (pv 2) (pa_cons (pe_ix ix_tup (pv 0) pe_int (fun _ _ => rfl)) pa_nil)))
      (pss_one (ps_ret (pe_op op_cat (pe_op op_cat (pe_slice sl_list (pv 2) po_none (po_some pe_int)) (pe_df (d_two T) (hr.mono (by decide)) (pa_cons (pe_df (d_sum_of T) (hr.mono (by decide)) (pa_cons (pv 2) pa_nil)) pa_nil))) (pe_slice sl_list (pv 2) (po_some pe_int) po_none)))))))))), fun F l rs d rs' Q h k => ?_⟩)
  · obtain ⟨⟨s0, rfl, hd, rfl⟩, rfl⟩ := h
    rfl
  · obtain ⟨⟨s0, rfl, hd, rfl⟩, rfl⟩ := h
    refine Lg.g_asg (ii := 1) (Lg.iI Lg.cInt (Lg.intB (Lg.iB (Lg.ixT (n := 6) (Lg.var (n := 0) rfl) Lg.cInt rfl) Lg.cInt))) ?_
    refine Lg.g_own (ii := 2) (Lg.catNi (Lg.catLi (Lg.catLi (Lg.c_two (Lg.cons_ (Lg.ixT (n := 0) (Lg.var (n := 0) rfl) Lg.cInt rfl) Lg.nil_)) (Lg.c_two (Lg.cons_ (Lg.ixT (n := 1) (Lg.var (n := 0) rfl) Lg.cInt rfl) Lg.nil_)) (sz rfl)) (Lg.c_four (Lg.cons_ (Lg.ixT (n := 2) (Lg.var (n := 0) rfl) Lg.cInt rfl) Lg.nil_)) (sz rfl)) (Lg.c_four (Lg.cons_ (Lg.ixT (n := 3) (Lg.var (n := 0) rfl) Lg.cInt rfl) Lg.nil_)) (sz rfl)) (fun p => ?_)
    refine Lg.g_extI (ii := 2) rfl (Lg.listI (Lg.consI (Lg.iC (.inr ⟨by decide, by decide⟩) (Lg.var (n := 1) rfl) Lg.cInt) (Lg.consI (Lg.ixT (n := 4) (Lg.var (n := 0) rfl) Lg.cInt rfl) Lg.nilI)) (sz rfl)) (sz rfl) ?_
    refine Lg.g_extI (ii := 2) rfl (Lg.catLi (Lg.c_two (Lg.cons_ (Lg.ixT (n := 5) (Lg.var (n := 0) rfl) Lg.cInt rfl) Lg.nil_)) (Lg.listI (Lg.consI Lg.cInt (Lg.consI Lg.cInt (Lg.consI Lg.cInt (Lg.consI Lg.cInt Lg.nilI)))) (sz rfl)) (sz rfl)) (sz rfl) ?_
    have zh : (M.head s0).length ≤ 24 := M.head_len s0
    refine Lg.g_when (Lg.tst (Lg.iB (Lg.ixT (n := 6) (Lg.var (n := 0) rfl) Lg.cInt rfl) Lg.cInt)) (fun h1 => ?_) (fun h1 => ?_)
    · refine Lg.g_extI1 (ii := 2) rfl (Lg.catLi (Lg.listI (Lg.consI Lg.cInt (Lg.consI Lg.cInt Lg.nilI)) (sz rfl)) (Lg.c_two (Lg.cons_ (Lg.ixT (n := 6) (Lg.var (n := 0) rfl) Lg.cInt rfl) Lg.nil_)) (sz rfl)) (sz rfl) (Lg.g_next ?_)
      refine Lg.g_olI (M.head_yes h1).symm ?_
      refine Lg.g_extTi (ii := 2) rfl (Lg.ixT (n := 7) (Lg.var (n := 0) rfl) Lg.cInt rfl) (by omega) ?_
      refine Lg.g_freezeI (ii := 2) rfl ?_
      have zz : (M.head s0 ++ s0.data).length ≤ 2000 := by rw [List.length_append]; omega
      exact Lg.g_ret (Lg.is_ (Lg.catLi (Lg.catLi (Lg.slLi (Lg.var (n := 2) rfl) Lg.oNo (Lg.oYes Lg.cInt)) (Lg.c_two (Lg.cons_ (Lg.c_sum_of (Lg.cons_ (Lg.var (n := 2) rfl) Lg.nil_) (by omega)) Lg.nil_)) (M.put_room1 _ _ zz)) (Lg.slLi (Lg.var (n := 2) rfl) (Lg.oYes Lg.cInt) Lg.oNo) (M.put_room2 _ _ zz)) (by rw [M.put_eq])) rfl k
    · refine Lg.g_olI (M.head_no h1).symm ?_
      refine Lg.g_extTi (ii := 2) rfl (Lg.ixT (n := 7) (Lg.var (n := 0) rfl) Lg.cInt rfl) (by omega) ?_
      refine Lg.g_freezeI (ii := 2) rfl ?_
      have zz : (M.head s0 ++ s0.data).length ≤ 2000 := by rw [List.length_append]; omega
      exact Lg.g_ret (Lg.is_ (Lg.catLi (Lg.catLi (Lg.slLi (Lg.var (n := 2) rfl) Lg.oNo (Lg.oYes Lg.cInt)) (Lg.c_two (Lg.cons_ (Lg.c_sum_of (Lg.cons_ (Lg.var (n := 2) rfl) Lg.nil_) (by omega)) Lg.nil_)) (M.put_room1 _ _ zz)) (Lg.slLi (Lg.var (n := 2) rfl) (Lg.oYes Lg.cInt) Lg.oNo) (M.put_room2 _ _ zz)) (by rw [M.put_eq])) rfl k
theorem sc_is_right : FnScope ["row", "head"] ["row"] (defScope s_is_right) := ⟨rfl, rfl, rfl, by decide +kernel, rfl, by decide +kernel, by decide +kernel⟩
theorem d_is_right (T : Tx fa fn ex w K mg) : Df P w K mg base CX0 3 "is_right" ["row"] (Lg.SpG K (Lg.RP Lg.f_isRight)) := by
  refine Lg.df_mkG T 35 52 rfl rfl sc_is_right (fun kV doc pm an cdv ct us hl => match us, hl with | [_], _ => rfl) (fun l rs d rs' h => ?_) (fun f cdv A outer s H E0 hr => ⟨_, PSs.nox (pss_cons (ps_if (PW.pt (pw_or (pt_cmpR op_lt (pe_callB call_len_seq (by rfl) (T.free 10) PySem.boot_len (pa_cons (pv 0) pa_nil)) pe_int (nomark _)) (pw_or (pt_cmpR op_notIn_seq (pe_ix ix_list (pv 0) pe_int (fun _ _ => rfl)) (pe_tup (pa_cons pe_int (pa_cons pe_int pa_nil))) rfl) (pw_or1 (pt_cmpR op_gt (pe_ix ix_list (pv 0) pe_int (fun _ _ => rfl)) pe_int (nomark _)))))) (pss_one (ps_ret pe_bl)) pss_nil)
      (pss_cons (ps_set (i := 1) sc_is_right.nd rfl (Or.inl rfl) (pe_op op_fdivW (pe_ix ix_list (pv 0) pe_int (fun _ _ => rfl)) pe_int))
      (pss_cons (ps_if (PW.pt (pw_or (pt_cmpR op_lt (pe_callB call_len_seq (by rfl) (T.free 10) PySem.boot_len (pa_cons (pv 0) pa_nil)) (pv 1) (nomark _)) (pw_or (pt_cmpR op_gt (pe_op op_sub (pe_callB call_len_seq (by rfl) (T.free 10) PySem.boot_len (pa_cons (pv 0) pa_nil)) (pv 1)) (pe_gi (T.int 50)) (nomark _)) (pw_or (pt_cmpR op_ne (pe_ix ix_list (pv 0) pe_int (fun _ _ => rfl)) pe_int (nomark _)) (pw_or1 (pt_cmpR op_ne (pe_ix ix_list (pv 0) pe_int (fun _ _ => rfl)) pe_int (nomark _))))))) (pss_one (ps_ret pe_bl)) pss_nil)
      (pss_cons (ps_if (pt_cmpR op_eq (pv 1) pe_int (nomark _)) (pss_one (ps_if (PW.pt (pw_or (pt_cmpR op_eq (pe_op op_mod (pe_op op_fdivW (pe_ix ix_list (pv 0) pe_int (fun _ _ => rfl)) (pe_gi (T.int 26))) pe_int) pe_int (nomark _)) (pw_or (pt_cmpR op_ne (pe_ix ix_list (pv 0) pe_int (fun _ _ => rfl)) pe_int (nomark _)) (pw_or (pt_cmpR op_ne (pe_ix ix_list (pv 0) pe_int (fun _ _ => rfl)) pe_int (nomark _)) (pw_or1 (pt_cmpR op_lt (pe_df (d_number_of T) (hr.mono (by decide)) (pa_cons (pe_slice sl_list (pv 0) (po_some pe_int) (po_some pe_int)) pa_nil)) (pe_gi (T.int 51)) (nomark _))))))) (pss_one (ps_ret pe_bl)) pss_nil)) pss_nil)
      (pss_one (ps_ret (pe_cmpR op_eq (pe_df (d_folded T) (hr.mono (by decide)) (pa_cons (pv 0) pa_nil)) pe_int (nomark _)))))))), fun F l rs d rs' Q h k => ?_⟩)
  · obtain ⟨⟨row, rfl, hz, rfl⟩, rfl⟩ := h
    rfl
  · obtain ⟨⟨row, rfl, hz, rfl⟩, rfl⟩ := h
    refine Lg.g_when (Lg.tOr_ (Lg.tst (Lg.iB (Lg.lenLi (Lg.var (n := 0) rfl)) Lg.cInt)) (fun hc1 => (Lg.tOr_ (Lg.tst (Lg.niI2 (Lg.ixLi (Lg.var (n := 0) rfl) Lg.cInt ⟨by decide, by have := of_decide_eq_false hc1; omega⟩) Lg.cInt Lg.cInt)) (fun hc2 => (Lg.tst (Lg.iB (Lg.ixLi (Lg.var (n := 0) rfl) Lg.cInt ⟨by decide, by have := of_decide_eq_false hc1; omega⟩) Lg.cInt)))))) (fun h1 => ?_) (fun h1 => ?_)
    · exact Lg.g_ret (Lg.is_ Lg.cBl (congrArg Lg.Da.bl (M.isR1 h1).symm)) rfl k
    obtain ⟨l1, l2, l3⟩ := M.isQ1 h1
    refine Lg.g_asg (ii := 1) (Lg.iC ⟨by decide, by decide⟩ (Lg.ixLi (Lg.var (n := 0) rfl) Lg.cInt ⟨by decide, by omega⟩) Lg.cInt) ?_
    refine Lg.g_when (Lg.tOr_ (Lg.tst (Lg.iB (Lg.lenLi (Lg.var (n := 0) rfl)) (Lg.var (n := 1) rfl))) (fun hc1 => (Lg.tOr_ (Lg.tst (Lg.iB (Lg.iI (Lg.lenLi (Lg.var (n := 0) rfl)) (Lg.var (n := 1) rfl)) Lg.cInt)) (fun hc2 => (Lg.tOr_ (Lg.tst (Lg.neI (Lg.ixLi (Lg.var (n := 0) rfl) Lg.cInt ⟨by decide, by omega⟩) Lg.cInt)) (fun hc3 => (Lg.tst (Lg.neI (Lg.ixLi (Lg.var (n := 0) rfl) Lg.cInt ⟨by decide, by omega⟩) Lg.cInt)))))))) (fun h2 => ?_) (fun h2 => ?_)
    · exact Lg.g_ret (Lg.is_ Lg.cBl (congrArg Lg.Da.bl (M.isR2 h1 h2).symm)) rfl k
    obtain ⟨l4, l5, l6⟩ := M.isQ2 h2
    refine Lg.g_when (Lg.tst (Lg.eqI (Lg.var (n := 1) rfl) Lg.cInt)) (fun h3 => ?_) (fun h3 => ?_)
    · have l7 : 24 ≤ row.length := by have := of_decide_eq_true h3; exact M.isQ3 this l4
      refine Lg.g_when1 (Lg.tOr_ (Lg.tst (Lg.eqI (Lg.iC (by decide) (Lg.iC ⟨by decide, by decide⟩ (Lg.ixLi (Lg.var (n := 0) rfl) Lg.cInt ⟨by decide, by omega⟩) Lg.cInt) Lg.cInt) Lg.cInt)) (fun hc1 => (Lg.tOr_ (Lg.tst (Lg.neI (Lg.ixLi (Lg.var (n := 0) rfl) Lg.cInt ⟨by decide, by omega⟩) Lg.cInt)) (fun hc2 => (Lg.tOr_ (Lg.tst (Lg.neI (Lg.ixLi (Lg.var (n := 0) rfl) Lg.cInt ⟨by decide, by omega⟩) Lg.cInt)) (fun hc3 => (Lg.tst (Lg.iB (Lg.c_number_of (Lg.cons_ (Lg.slLi (Lg.var (n := 0) rfl) (Lg.oYes Lg.cInt) (Lg.oYes Lg.cInt)) Lg.nil_)) Lg.cInt)))))))) (fun h4 => ?_) (fun h4 => Lg.g_next ?_)
      · exact Lg.g_ret (Lg.is_ Lg.cBl (congrArg Lg.Da.bl (M.isR3 h1 h2 h3 h4).symm)) rfl k
      · exact Lg.g_ret (Lg.is_ (Lg.eqI (Lg.c_folded (Lg.cons_ (Lg.var (n := 0) rfl) Lg.nil_) (by omega)) Lg.cInt) (congrArg Lg.Da.bl (M.isR4 h1 h2 h3 h4).symm)) rfl k
    · exact Lg.g_ret (Lg.is_ (Lg.eqI (Lg.c_folded (Lg.cons_ (Lg.var (n := 0) rfl) Lg.nil_) (by omega)) Lg.cInt) (congrArg Lg.Da.bl (M.isR5 h1 h2 h3).symm)) rfl k
theorem sc_reset_for : FnScope ["end", "segment"] ["end", "segment"] (defScope s_reset_for) := ⟨rfl, rfl, rfl, by decide +kernel, rfl, by decide +kernel, by decide +kernel⟩
theorem d_reset_for (T : Tx fa fn ex w K mg) : Df P w K mg base CX0 3 "reset_for" ["end", "segment"] (Lg.SpG K (Lg.RE K Lg.R_reset_for)) := by
  refine Lg.df_mkG T 36 53 rfl rfl sc_reset_for (fun kV doc pm an cdv ct us hl => match us, hl with | [_, _], _ => rfl) (fun l rs d rs' h => ?_) (fun f cdv A outer s H E0 hr => ⟨_, PSs.nox (pss_one (ps_if (pt_val (pe_df (d_has T) (hr.mono (by decide)) (pa_cons (pv 1) (pa_cons (pe_gi (T.int 32)) pa_nil)))) (pss_one (ps_fld (pv 0) (pe_tup (pa_cons (pe_fld (pv 0) rfl) (pa_cons (pe_ix ix_tup (pv 1) pe_int (fun _ _ => rfl)) (pa_cons (pe_ix ix_tup (pv 1) pe_int (fun _ _ => rfl)) (pa_cons pe_int (pa_cons (pe_gi (T.int 31)) (pa_cons pe_int (pa_cons pe_int (pa_cons (pe_tup pa_nil) pa_nil))))))))) rfl)) (pss_one (ps_fld (pv 0) (pe_tup (pa_cons (pe_fld (pv 0) rfl) (pa_cons (pe_ix ix_tup (pv 1) pe_int (fun _ _ => rfl)) (pa_cons pe_int (pa_cons (pe_df (d_plus T) (hr.mono (by decide)) (pa_cons (pe_ix ix_tup (pv 1) pe_int (fun _ _ => rfl)) (pa_cons (pe_df (d_length T) (hr.mono (by decide)) (pa_cons (pv 1) pa_nil)) pa_nil))) (pa_cons (pe_op op_add (pe_gi (T.int 31)) (pe_gi (T.int 32))) (pa_cons pe_int (pa_cons pe_int (pa_cons (pe_tup pa_nil) pa_nil))))))))) rfl)))), fun F l rs d rs' Q h k => ?_⟩)
  · obtain ⟨p, e, _, r, _, rfl, rfl, ⟨s, rfl, rfl, rfl⟩, rfl⟩ := h
    rfl
  · obtain ⟨p, e, _, r, _, rfl, rfl, ⟨s, rfl, rfl, rfl⟩, rfl⟩ := h
    have EF := EFT T
    refine Lg.g_if1 (Lg.tstB (Lg.call (Lg.cons_ (Lg.var (n := 1) rfl) (Lg.cons_ Lg.cInt Lg.nil_)) ⟨⟨_, _, rfl, ⟨by decide, by decide⟩, rfl⟩, rfl⟩)) (fun h1 => ?_) (fun h1 => ?_)
    · refine Lg.w1_reset EF (Lg.is_ (Lg.tup_ (Lg.cons_ (Lg.r_ours EF (Lg.var (n := 0) rfl) .here) (Lg.cons_ (Lg.ixT (n := 0) (Lg.var (n := 1) rfl) Lg.cInt rfl) (Lg.cons_ (Lg.ixT (n := 3) (Lg.var (n := 1) rfl) Lg.cInt rfl) (Lg.cons_ Lg.cInt (Lg.cons_ Lg.cInt (Lg.cons_ Lg.cInt (Lg.cons_ Lg.cInt (Lg.cons_ (Lg.tupI Lg.nilI (sz rfl)) Lg.nil_)))))))) (sz rfl)) (rfl : _ = Lg.osg (some ⟨e.ours, s.src, s.ans, 0, 4, 0, 0, []⟩))) (Lg.var (n := 0) rfl) .here ?_
      rw [show E.reset_for e s = _ from (if_pos h1)] at k; exact Lg.g_end rfl k
    · refine Lg.w1_reset EF (Lg.is_ (Lg.tup_ (Lg.cons_ (Lg.r_ours EF (Lg.var (n := 0) rfl) .here) (Lg.cons_ (Lg.ixT (n := 0) (Lg.var (n := 1) rfl) Lg.cInt rfl) (Lg.cons_ Lg.cInt (Lg.cons_ (Lg.c_plus (Lg.cons_ (Lg.ixT (n := 2) (Lg.var (n := 1) rfl) Lg.cInt rfl) (Lg.cons_ (Lg.call (Lg.cons_ (Lg.var (n := 1) rfl) Lg.nil_) ⟨⟨_, rfl, rfl⟩, rfl⟩) Lg.nil_))) (Lg.cons_ (Lg.iI Lg.cInt Lg.cInt) (Lg.cons_ Lg.cInt (Lg.cons_ Lg.cInt (Lg.cons_ (Lg.tupI Lg.nilI (sz rfl)) Lg.nil_)))))))) (sz rfl)) (rfl : _ = Lg.osg (some ⟨e.ours, s.src, 0, M.plus s.num (M.length s), 4 + 16, 0, 0, []⟩))) (Lg.var (n := 0) rfl) .here ?_
      rw [show E.reset_for e s = _ from (if_neg (M.fne h1))] at k; exact Lg.g_end rfl k
theorem sc_fits : FnScope ["end", "segment", "far", "size", "space"] ["end", "segment"] (defScope s_fits) := ⟨rfl, rfl, rfl, by decide +kernel, rfl, by decide +kernel, by decide +kernel⟩
theorem d_fits (T : Tx fa fn ex w K mg) : Df P w K mg base CX0 3 "fits" ["end", "segment"] (Lg.SpG K (Lg.RE K Lg.R_fits)) := by
  refine Lg.df_mkG T 37 54 rfl rfl sc_fits (fun kV doc pm an cdv ct us hl => match us, hl with | [_, _], _ => rfl) (fun l rs d rs' h => ?_) (fun f cdv A outer s H E0 hr => ⟨_, PSs.nox (pss_cons (ps_set (i := 2) sc_fits.nd rfl (Or.inl rfl) (pe_df (d_offset T) (hr.mono (by decide)) (pa_cons (pe_ix ix_tup (pv 1) pe_int (fun _ _ => rfl)) (pa_cons (pe_fld (pv 0) rfl) pa_nil))))
      (pss_cons (ps_set (i := 3) sc_fits.nd rfl (Or.inl rfl) (pe_df (d_length T) (hr.mono (by decide)) (pa_cons (pv 1) pa_nil)))
      (pss_cons (ps_if (pt_cmpR op_eq (pv 3) pe_int (nomark _)) (pss_one (ps_ret (pe_chain op_le op_le pe_int (pv 2) (pe_gi (T.int 18))))) pss_nil)
      (pss_cons (ps_set (i := 4) sc_fits.nd rfl (Or.inl rfl) (C8.pe_mt0 (m_Pile_room T) hr (by decide) (pe_fld (pv 0) rfl)))
      (pss_one (ps_ret (pe_and (pe_cmpR op_gt (pv 4) pe_int (nomark _)) (pe_one (pe_or (pe_chain op_le op_lt pe_int (pv 2) (pv 4)) (pe_one (pe_chain op_le op_lt pe_int (pe_op op_sub (pe_op op_add (pv 2) (pv 3)) pe_int) (pv 4)))))))))))), fun F l rs d rs' Q h k => ?_⟩)
  · obtain ⟨p, e0, _, r, e, rfl, rfl, ⟨s, rfl, rfl, rfl⟩, rfl⟩ := h
    rfl
  · obtain ⟨p, e0, _, r, e, rfl, rfl, ⟨s, rfl, rfl, rfl⟩, rfl⟩ := h
    have EF := EFT T
    refine Lg.g_asg (ii := 2) (Lg.c_offset (Lg.cons_ (Lg.ixT (n := 2) (Lg.var (n := 1) rfl) Lg.cInt rfl) (Lg.cons_ (Lg.r_rcv EF (Lg.var (n := 0) rfl) .here) Lg.nil_))) ?_
    refine Lg.g_asg (ii := 3) (Lg.call (Lg.cons_ (Lg.var (n := 1) rfl) Lg.nil_) ⟨⟨_, rfl, rfl⟩, rfl⟩) ?_
    refine Lg.g_when (Lg.tst (Lg.eqI (Lg.var (n := 3) rfl) Lg.cInt)) (fun h1 => ?_) (fun h1 => ?_)
    · exact Lg.g_ret (Lg.is_ (Lg.ch Lg.cInt (Lg.var (n := 2) rfl) Lg.cInt) (congrArg Lg.Da.bl (show E.fits e s = _ from (if_pos h1)).symm)) rfl k
    · refine Lg.g_asg (ii := 4) (Lg.pileE EF (Lg.var (n := 0) rfl) .here (fun rs' => Lg.nil_) (fun q hl el => by kernel_rfl) ⟨rfl, rfl, rfl⟩) ?_
      exact Lg.g_ret (Lg.is_ (Lg.andV (Lg.iB (Lg.var (n := 4) rfl) Lg.cInt) (fun hc1 => (Lg.orV (Lg.ch Lg.cInt (Lg.var (n := 2) rfl) (Lg.var (n := 4) rfl)) (fun hc2 => (Lg.ch Lg.cInt (Lg.iI (Lg.iI (Lg.var (n := 2) rfl) (Lg.var (n := 3) rfl)) Lg.cInt) (Lg.var (n := 4) rfl)))))) (congrArg Lg.Da.bl (show E.fits e s = _ from (if_neg (M.fne h1))).symm)) rfl k
theorem sc_window_comes : FnScope ["end", "segment", "gone_on", "before", "newer"] ["end", "segment", "gone_on"] (defScope s_window_comes) := ⟨rfl, rfl, rfl, by decide +kernel, rfl, by decide +kernel, by decide +kernel⟩
theorem d_window_comes (T : Tx fa fn ex w K mg) : Df P w K mg base CX0 3 "window_comes" ["end", "segment", "gone_on"] (Lg.SpG K (Lg.RE K Lg.R_window_comes)) := by
  refine Lg.df_mkG T 38 55 rfl rfl sc_window_comes (fun kV doc pm an cdv ct us hl => match us, hl with | [_, _, _], _ => rfl) (fun l rs d rs' h => ?_) (fun f cdv A outer s H E0 hr => ⟨_, PSs.nox (pss_cons (ps_set (i := 3) sc_window_comes.nd rfl (Or.inl rfl) (pe_fld (pv 0) rfl))
      (pss_cons (ps_set (i := 4) sc_window_comes.nd rfl (Or.inl rfl) (pe_or (pe_df (d_past T) (hr.mono (by decide)) (pa_cons (pe_ix ix_tup (pv 1) pe_int (fun _ _ => rfl)) (pa_cons (pe_fld (pv 0) rfl) pa_nil))) (pe_one (pe_and (pe_cmpR op_eq (pe_ix ix_tup (pv 1) pe_int (fun _ _ => rfl)) (pe_fld (pv 0) rfl) (nomark _)) (pe_one (pe_not (pe_df (d_past T) (hr.mono (by decide)) (pa_cons (pe_fld (pv 0) rfl) (pa_cons (pe_ix ix_tup (pv 1) pe_int (fun _ _ => rfl)) pa_nil)))))))))
      (pss_cons (ps_if (PW.pt (pw_or (pt_truth (pv 2) (fun _ => rfl)) (pw_or1 (pt_truth (pv 4) (fun _ => rfl))))) (pss_one (ps_expr (pe_df (d_hear_window T) (hr.mono (by decide)) (pa_cons (pv 0) (pa_cons (pv 1) pa_nil))))) pss_nil)
      (pss_one (ps_if (PW.pt (pw_or (pt_cmpR op_eq (pv 3) pe_int (nomark _)) (pw_or1 (pt_cmpR op_eq (pe_fld (pv 0) rfl) pe_int (nomark _))))) (pss_one (ps_fld (pv 0) pe_int rfl)) pss_nil))))), fun F l rs d rs' Q h k => ?_⟩)
  · obtain ⟨p, e, _, r, _, rfl, rfl, ⟨s, g0, rfl, rfl, rfl⟩, rfl⟩ := h
    rfl
  · obtain ⟨p, e, _, r, _, rfl, rfl, ⟨s, g0, rfl, rfl, rfl⟩, rfl⟩ := h
    have EF := EFT T
    refine Lg.g_asg (ii := 3) (Lg.r_wnd EF (Lg.var (n := 0) rfl) .here) ?_
    refine Lg.g_asg (ii := 4) (Lg.orV (Lg.c_past (Lg.cons_ (Lg.ixT (n := 2) (Lg.var (n := 1) rfl) Lg.cInt rfl) (Lg.cons_ (Lg.r_told EF (Lg.var (n := 0) rfl) .here) Lg.nil_))) (fun hc1 => (Lg.andV (Lg.eqI (Lg.ixT (n := 2) (Lg.var (n := 1) rfl) Lg.cInt rfl) (Lg.r_told EF (Lg.var (n := 0) rfl) .here)) (fun hc2 => (Lg.notV (Lg.c_past (Lg.cons_ (Lg.r_told_by EF (Lg.var (n := 0) rfl) .here) (Lg.cons_ (Lg.ixT (n := 3) (Lg.var (n := 1) rfl) Lg.cInt rfl) Lg.nil_)))))))) ?_
    refine Lg.g_when (Lg.tOr_ (Lg.truB (Lg.var (n := 2) rfl)) (fun hc1 => (Lg.truB (Lg.var (n := 4) rfl)))) (fun h1 => ?_) (fun h1 => ?_)
    · refine Lg.g_drop1 (Lg.callE (Lg.cons_ (Lg.var (n := 0) rfl) (Lg.cons_ (Lg.var (n := 1) rfl) Lg.nil_)) .here ⟨_, rfl, rfl, rfl⟩) ?_
      refine Lg.g_next ?_
      refine Lg.g_when1 (Lg.tOr_ (Lg.tst (Lg.eqI (Lg.var (n := 3) rfl) Lg.cInt)) (fun hc1 => (Lg.tst (Lg.eqI (Lg.r_wnd EF (Lg.var (n := 0) rfl) .here) Lg.cInt)))) (fun h2 => ?_) (fun h2 => ?_)
      · refine Lg.w1_tries EF Lg.cInt (Lg.var (n := 0) rfl) .here ?_
        rw [show E.window_comes e s g0 = _ from ((if_pos h1).trans (if_pos h2))] at k; exact Lg.g_end rfl k
      · rw [show E.window_comes e s g0 = _ from ((if_pos h1).trans (if_neg (M.fne h2)))] at k; exact Lg.g_end rfl k
    · refine Lg.g_when1 (Lg.tOr_ (Lg.tst (Lg.eqI (Lg.var (n := 3) rfl) Lg.cInt)) (fun hc1 => (Lg.tst (Lg.eqI (Lg.r_wnd EF (Lg.var (n := 0) rfl) .here) Lg.cInt)))) (fun h2 => ?_) (fun h2 => ?_)
      · refine Lg.w1_tries EF Lg.cInt (Lg.var (n := 0) rfl) .here ?_
        rw [show E.window_comes e s g0 = _ from ((if_neg (M.fne h1)).trans (if_pos h2))] at k; exact Lg.g_end rfl k
      · rw [show E.window_comes e s g0 = _ from ((if_neg (M.fne h1)).trans (if_neg (M.fne h2)))] at k; exact Lg.g_end rfl k
theorem sc_End_init : FnScope ["self", "ours", "theirs", "first", "active"] ["self", "ours", "theirs", "first", "active"] (defScope s_End_init) := ⟨rfl, rfl, rfl, by decide +kernel, rfl, by decide +kernel, by decide +kernel⟩
theorem m_End_init (T : Tx fa fn ex w K mg) : C8.Mak P w K mg base 3 "End" (He.ga K "End") (Lg.SpG K (Lg.i_end K)) [] := by
  refine Lg.mak_of (MK_End T) (T.glo 58) (Lg.ok_mkG (c := ("End", some "__init__")) T 39 rfl sc_End_init (fun kV doc pm an cdv ct us hl => match us, hl with | [_, _, _, _, _], _ => rfl) (fun l rs d rs' h => ?_) (fun f cdv A outer s H E0 hr => ⟨_, (pss_cons (ps_fld (pv 0) (pv 1) rfl)
      (pss_cons (ps_fld (pv 0) (pv 2) rfl)
      (pss_cons (ps_fld (pv 0) (pv 3) rfl)
      (pss_cons (ps_fld (pv 0) (pe_ifExp (pt_truth (pv 4) (fun _ => rfl)) (pe_gs (T.str 56)) (pe_gs (T.str 21))) rfl)
      (pss_cons (ps_fld (pv 0) (pv 3) rfl)
      (pss_cons (ps_fld (pv 0) (pv 3) rfl)
      (pss_cons (ps_fld (pv 0) pe_bl rfl)
      (pss_cons (ps_fld (pv 0) pe_int rfl)
      (pss_cons (ps_fld (pv 0) pe_int rfl)
      (pss_cons (ps_fld (pv 0) pe_int rfl)
      (pss_cons (ps_fld (pv 0) pe_int rfl)
      (pss_cons (ps_fld (pv 0) (pe_gi (T.int 57)) rfl)
      (pss_cons (ps_fld (pv 0) (pe_lst pa_nil) rfl)
      (pss_cons (ps_fld (pv 0) (Lg.pe_mk0 (m_Pile_init T) hr (by decide)) rfl)
      (pss_cons (ps_fld (pv 0) pe_bl rfl)
      (pss_cons (ps_fld (pv 0) pe_bl rfl)
      (pss_cons (ps_fld (pv 0) pe_non rfl)
      (pss_cons (ps_fld (pv 0) pe_bl rfl)
      (pss_cons (ps_fld (pv 0) pe_bl rfl)
      (pss_cons (ps_fld (pv 0) pe_int rfl)
      (pss_cons (ps_fld (pv 0) (pe_gi (T.int 4)) rfl)
      (pss_cons (ps_fld (pv 0) pe_int rfl)
      (pss_cons (ps_fld (pv 0) pe_bl rfl)
      (pss_one (ps_fld (pv 0) pe_str rfl))))))))))))))))))))))))), fun F l rs d rs' Q h k => ?_⟩))
  · obtain ⟨x, a, b, c, act, r, rfl, rfl, rfl, rfl⟩ := h
    rfl
  · have EF := EFT T
    obtain ⟨x, a, b, c, act, r, rfl, rfl, rfl, rfl⟩ := h
    refine Lg.g_raw (EF).cl ((EF).na _ (by simp)) (Nat.lt_of_le_of_lt (Nat.le_refl 0) (by decide)) (Lg.ev_X (Lg.var (n := 1) rfl)) rfl (fun a0 => ?_)
    refine Lg.g_raw (EF).cl ((EF).na _ (by simp)) (Nat.lt_of_le_of_lt (Lg.putD_b (Nat.le_refl 0)) (by decide)) (Lg.ev_X (Lg.var (n := 2) rfl)) rfl (fun a1 => ?_)
    refine Lg.g_raw (EF).cl ((EF).na _ (by simp)) (Nat.lt_of_le_of_lt (Lg.putD_b (Lg.putD_b (Nat.le_refl 0))) (by decide)) (Lg.ev_X (Lg.var (n := 3) rfl)) rfl (fun a2 => ?_)
    refine Lg.g_raw (EF).cl ((EF).na _ (by simp)) (Nat.lt_of_le_of_lt (Lg.putD_b (Lg.putD_b (Lg.putD_b (Nat.le_refl 0)))) (by decide)) (Lg.ev_X (Lg.ifeSt (Lg.truB (Lg.var (n := 4) rfl)) (fun hc => (Lg.cSt .synSent)) (fun hc => (Lg.cSt .listen)))) rfl (fun a3 => ?_)
    refine Lg.g_raw (EF).cl ((EF).na _ (by simp)) (Nat.lt_of_le_of_lt (Lg.putD_b (Lg.putD_b (Lg.putD_b (Lg.putD_b (Nat.le_refl 0))))) (by decide)) (Lg.ev_X (Lg.var (n := 3) rfl)) rfl (fun a4 => ?_)
    refine Lg.g_raw (EF).cl ((EF).na _ (by simp)) (Nat.lt_of_le_of_lt (Lg.putD_b (Lg.putD_b (Lg.putD_b (Lg.putD_b (Lg.putD_b (Nat.le_refl 0)))))) (by decide)) (Lg.ev_X (Lg.var (n := 3) rfl)) rfl (fun a5 => ?_)
    refine Lg.g_raw (EF).cl ((EF).na _ (by simp)) (Nat.lt_of_le_of_lt (Lg.putD_b (Lg.putD_b (Lg.putD_b (Lg.putD_b (Lg.putD_b (Lg.putD_b (Nat.le_refl 0))))))) (by decide)) (Lg.ev_X Lg.cBl) rfl (fun a6 => ?_)
    refine Lg.g_raw (EF).cl ((EF).na _ (by simp)) (Nat.lt_of_le_of_lt (Lg.putD_b (Lg.putD_b (Lg.putD_b (Lg.putD_b (Lg.putD_b (Lg.putD_b (Lg.putD_b (Nat.le_refl 0)))))))) (by decide)) (Lg.ev_X Lg.cInt) rfl (fun a7 => ?_)
    refine Lg.g_raw (EF).cl ((EF).na _ (by simp)) (Nat.lt_of_le_of_lt (Lg.putD_b (Lg.putD_b (Lg.putD_b (Lg.putD_b (Lg.putD_b (Lg.putD_b (Lg.putD_b (Lg.putD_b (Nat.le_refl 0))))))))) (by decide)) (Lg.ev_X Lg.cInt) rfl (fun a8 => ?_)
    refine Lg.g_raw (EF).cl ((EF).na _ (by simp)) (Nat.lt_of_le_of_lt (Lg.putD_b (Lg.putD_b (Lg.putD_b (Lg.putD_b (Lg.putD_b (Lg.putD_b (Lg.putD_b (Lg.putD_b (Lg.putD_b (Nat.le_refl 0)))))))))) (by decide)) (Lg.ev_X Lg.cInt) rfl (fun a9 => ?_)
    refine Lg.g_raw (EF).cl ((EF).na _ (by simp)) (Nat.lt_of_le_of_lt (Lg.putD_b (Lg.putD_b (Lg.putD_b (Lg.putD_b (Lg.putD_b (Lg.putD_b (Lg.putD_b (Lg.putD_b (Lg.putD_b (Lg.putD_b (Nat.le_refl 0))))))))))) (by decide)) (Lg.ev_X Lg.cInt) rfl (fun a10 => ?_)
    refine Lg.g_raw (EF).cl ((EF).na _ (by simp)) (Nat.lt_of_le_of_lt (Lg.putD_b (Lg.putD_b (Lg.putD_b (Lg.putD_b (Lg.putD_b (Lg.putD_b (Lg.putD_b (Lg.putD_b (Lg.putD_b (Lg.putD_b (Lg.putD_b (Nat.le_refl 0)))))))))))) (by decide)) (Lg.ev_X Lg.cInt) rfl (fun a11 => ?_)
    refine Lg.g_raw (EF).cl ((EF).na _ (by simp)) (Nat.lt_of_le_of_lt (Lg.putD_b (Lg.putD_b (Lg.putD_b (Lg.putD_b (Lg.putD_b (Lg.putD_b (Lg.putD_b (Lg.putD_b (Lg.putD_b (Lg.putD_b (Lg.putD_b (Lg.putD_b (Nat.le_refl 0))))))))))))) (by decide)) (Lg.ev_X (Lg.listI Lg.nilI (sz rfl))) rfl (fun a12 => ?_)
    refine Lg.g_raw (EF).cl ((EF).na _ (by simp)) (Nat.lt_of_le_of_lt (Lg.putD_b (Lg.putD_b (Lg.putD_b (Lg.putD_b (Lg.putD_b (Lg.putD_b (Lg.putD_b (Lg.putD_b (Lg.putD_b (Lg.putD_b (Lg.putD_b (Lg.putD_b (Lg.putD_b (Nat.le_refl 0)))))))))))))) (by decide)) (Lg.evX_swap (Lg.mkX (g := fun x => Lg.pileR K x M.Pile0 :: _) Lg.nil_ (fun x => ⟨x, _, rfl, rfl, rfl, rfl⟩))) rfl (fun a13 => ?_)
    refine Lg.g_raw (EF).cl ((EF).na _ (by simp)) (Nat.lt_of_le_of_lt (Lg.putD_b (Lg.putD_b (Lg.putD_b (Lg.putD_b (Lg.putD_b (Lg.putD_b (Lg.putD_b (Lg.putD_b (Lg.putD_b (Lg.putD_b (Lg.putD_b (Lg.putD_b (Lg.putD_b (Lg.putD_b (Nat.le_refl 0))))))))))))))) (by decide)) (Lg.ev_X Lg.cBl) rfl (fun a14 => ?_)
    refine Lg.g_raw (EF).cl ((EF).na _ (by simp)) (Nat.lt_of_le_of_lt (Lg.putD_b (Lg.putD_b (Lg.putD_b (Lg.putD_b (Lg.putD_b (Lg.putD_b (Lg.putD_b (Lg.putD_b (Lg.putD_b (Lg.putD_b (Lg.putD_b (Lg.putD_b (Lg.putD_b (Lg.putD_b (Lg.putD_b (Nat.le_refl 0)))))))))))))))) (by decide)) (Lg.ev_X Lg.cBl) rfl (fun a15 => ?_)
    refine Lg.g_raw (EF).cl ((EF).na _ (by simp)) (Nat.lt_of_le_of_lt (Lg.putD_b (Lg.putD_b (Lg.putD_b (Lg.putD_b (Lg.putD_b (Lg.putD_b (Lg.putD_b (Lg.putD_b (Lg.putD_b (Lg.putD_b (Lg.putD_b (Lg.putD_b (Lg.putD_b (Lg.putD_b (Lg.putD_b (Lg.putD_b (Nat.le_refl 0))))))))))))))))) (by decide)) (Lg.ev_X Lg.cNon) rfl (fun a16 => ?_)
    refine Lg.g_raw (EF).cl ((EF).na _ (by simp)) (Nat.lt_of_le_of_lt (Lg.putD_b (Lg.putD_b (Lg.putD_b (Lg.putD_b (Lg.putD_b (Lg.putD_b (Lg.putD_b (Lg.putD_b (Lg.putD_b (Lg.putD_b (Lg.putD_b (Lg.putD_b (Lg.putD_b (Lg.putD_b (Lg.putD_b (Lg.putD_b (Lg.putD_b (Nat.le_refl 0)))))))))))))))))) (by decide)) (Lg.ev_X Lg.cBl) rfl (fun a17 => ?_)
    refine Lg.g_raw (EF).cl ((EF).na _ (by simp)) (Nat.lt_of_le_of_lt (Lg.putD_b (Lg.putD_b (Lg.putD_b (Lg.putD_b (Lg.putD_b (Lg.putD_b (Lg.putD_b (Lg.putD_b (Lg.putD_b (Lg.putD_b (Lg.putD_b (Lg.putD_b (Lg.putD_b (Lg.putD_b (Lg.putD_b (Lg.putD_b (Lg.putD_b (Lg.putD_b (Nat.le_refl 0))))))))))))))))))) (by decide)) (Lg.ev_X Lg.cBl) rfl (fun a18 => ?_)
    refine Lg.g_raw (EF).cl ((EF).na _ (by simp)) (Nat.lt_of_le_of_lt (Lg.putD_b (Lg.putD_b (Lg.putD_b (Lg.putD_b (Lg.putD_b (Lg.putD_b (Lg.putD_b (Lg.putD_b (Lg.putD_b (Lg.putD_b (Lg.putD_b (Lg.putD_b (Lg.putD_b (Lg.putD_b (Lg.putD_b (Lg.putD_b (Lg.putD_b (Lg.putD_b (Lg.putD_b (Nat.le_refl 0)))))))))))))))))))) (by decide)) (Lg.ev_X Lg.cInt) rfl (fun a19 => ?_)
    refine Lg.g_raw (EF).cl ((EF).na _ (by simp)) (Nat.lt_of_le_of_lt (Lg.putD_b (Lg.putD_b (Lg.putD_b (Lg.putD_b (Lg.putD_b (Lg.putD_b (Lg.putD_b (Lg.putD_b (Lg.putD_b (Lg.putD_b (Lg.putD_b (Lg.putD_b (Lg.putD_b (Lg.putD_b (Lg.putD_b (Lg.putD_b (Lg.putD_b (Lg.putD_b (Lg.putD_b (Lg.putD_b (Nat.le_refl 0))))))))))))))))))))) (by decide)) (Lg.ev_X Lg.cInt) rfl (fun a20 => ?_)
    refine Lg.g_raw (EF).cl ((EF).na _ (by simp)) (Nat.lt_of_le_of_lt (Lg.putD_b (Lg.putD_b (Lg.putD_b (Lg.putD_b (Lg.putD_b (Lg.putD_b (Lg.putD_b (Lg.putD_b (Lg.putD_b (Lg.putD_b (Lg.putD_b (Lg.putD_b (Lg.putD_b (Lg.putD_b (Lg.putD_b (Lg.putD_b (Lg.putD_b (Lg.putD_b (Lg.putD_b (Lg.putD_b (Lg.putD_b (Nat.le_refl 0)))))))))))))))))))))) (by decide)) (Lg.ev_X Lg.cInt) rfl (fun a21 => ?_)
    refine Lg.g_raw (EF).cl ((EF).na _ (by simp)) (Nat.lt_of_le_of_lt (Lg.putD_b (Lg.putD_b (Lg.putD_b (Lg.putD_b (Lg.putD_b (Lg.putD_b (Lg.putD_b (Lg.putD_b (Lg.putD_b (Lg.putD_b (Lg.putD_b (Lg.putD_b (Lg.putD_b (Lg.putD_b (Lg.putD_b (Lg.putD_b (Lg.putD_b (Lg.putD_b (Lg.putD_b (Lg.putD_b (Lg.putD_b (Lg.putD_b (Nat.le_refl 0))))))))))))))))))))))) (by decide)) (Lg.ev_X Lg.cBl) rfl (fun a22 => ?_)
    refine Lg.g_raw1 (EF).cl ((EF).na _ (by simp)) (Nat.lt_of_le_of_lt (Lg.putD_b (Lg.putD_b (Lg.putD_b (Lg.putD_b (Lg.putD_b (Lg.putD_b (Lg.putD_b (Lg.putD_b (Lg.putD_b (Lg.putD_b (Lg.putD_b (Lg.putD_b (Lg.putD_b (Lg.putD_b (Lg.putD_b (Lg.putD_b (Lg.putD_b (Lg.putD_b (Lg.putD_b (Lg.putD_b (Lg.putD_b (Lg.putD_b (Lg.putD_b (Nat.le_refl 0)))))))))))))))))))))))) (by decide)) (Lg.ev_X (Lg.cEt .none)) rfl (fun a23 => ?_)
    exact Lg.g_conv (fun F H o => Lg.end_of_raw (by kernel_rfl) o) (Lg.g_end rfl k)
theorem sc_unsent : FnScope ["end"] ["end"] (defScope s_unsent) := ⟨rfl, rfl, rfl, by decide +kernel, rfl, by decide +kernel, by decide +kernel⟩
theorem d_unsent (T : Tx fa fn ex w K mg) : Df P w K mg base CX0 4 "unsent" ["end"] (Lg.SpG K (Lg.RE K Lg.R_unsent)) := by
  refine Lg.df_mkG T 40 60 rfl rfl sc_unsent (fun kV doc pm an cdv ct us hl => match us, hl with | [_], _ => rfl) (fun l rs d rs' h => ?_) (fun f cdv A outer s H E0 hr => ⟨_, PSs.nox (pss_cons (ps_if (pt_not (pt_truth (pe_fld (pv 0) rfl) (fun _ => rfl))) (pss_one (ps_ret (pe_callB call_len_seq (by rfl) (T.free 10) PySem.boot_len (pa_cons (pe_fld (pv 0) rfl) pa_nil)))) pss_nil)
      (pss_one (ps_ret (pe_callB (call_max2 rfl) (by rfl) (T.free 59) (by decide +kernel) (pa_cons pe_int (pa_cons (pe_op op_sub (pe_callB call_len_seq (by rfl) (T.free 10) PySem.boot_len (pa_cons (pe_fld (pv 0) rfl) pa_nil)) (pe_df (d_outstanding T) (hr.mono (by decide)) (pa_cons (pv 0) pa_nil))) pa_nil)))))), fun F l rs d rs' Q h k => ?_⟩)
  · obtain ⟨p, e0, _, r, e, rfl, rfl, ⟨rfl, rfl, rfl⟩, rfl⟩ := h
    rfl
  · obtain ⟨p, e0, _, r, e, rfl, rfl, ⟨rfl, rfl, rfl⟩, rfl⟩ := h
    have EF := EFT T
    refine Lg.g_when (Lg.tNot_ (Lg.truB (Lg.r_synced EF (Lg.var (n := 0) rfl) .here))) (fun h1 => ?_) (fun h1 => ?_)
    · exact Lg.g_ret (Lg.is_ (Lg.lenLi (Lg.r_out EF (Lg.var (n := 0) rfl) .here)) (congrArg Lg.Da.int (show E.unsent e = _ from (if_pos h1)).symm)) rfl k
    · exact Lg.g_ret (Lg.is_ (Lg.max2 Lg.cInt (Lg.iI (Lg.lenLi (Lg.r_out EF (Lg.var (n := 0) rfl) .here)) (Lg.callE (Lg.cons_ (Lg.var (n := 0) rfl) Lg.nil_) .here ⟨rfl, rfl, rfl⟩))) (congrArg Lg.Da.int (show E.unsent e = _ from (if_neg (M.fne h1))).symm)) rfl k
theorem sc_get : FnScope ["row", "head", "most", "ports", "numbers"] ["row"] (defScope s_get) := ⟨rfl, rfl, rfl, by decide +kernel, rfl, by decide +kernel, by decide +kernel⟩
theorem d_get (T : Tx fa fn ex w K mg) : DfX P w K mg base 4 "get" ["row"] (Lg.SpGX K (He.ga K "NoSegment") (Lg.RP Lg.f_get) Lg.x_get) := by
  refine Lg.df_mkGX T 41 64 rfl rfl sc_get (fun kV doc pm an cdv ct us hl => match us, hl with | [_], _ => rfl) (fun l rs d rs' h => ?_) (fun l rs h => ?_) (fun f cdv A outer s H E hr => ⟨_, (pss_cons (ps_if (pt_not (pt_val (pe_df (d_is_right T) (hr.mono (by decide)) (pa_cons (pv 0) pa_nil)))) (pss_one (ps_raiseC rfl (takes_of rfl rfl rfl rfl) (T.exc 61) (T.glo 62))) pss_nil)
      (pss_cons (ps_set (i := 1) sc_get.nd rfl (Or.inl rfl) (pe_op op_fdivW (pe_ix ix_list (pv 0) pe_int (fun _ _ => rfl)) pe_int))
      (pss_cons (ps_set (i := 2) sc_get.nd rfl (Or.inl rfl) pe_int)
      (pss_cons (ps_if (pt_cmpR op_eq (pv 1) pe_int (nomark _)) (pss_one (ps_set (i := 2) sc_get.nd rfl (Or.inl rfl) (pe_df (d_number_of T) (hr.mono (by decide)) (pa_cons (pe_slice sl_list (pv 0) (po_some pe_int) (po_some pe_int)) pa_nil)))) pss_nil)
      (pss_cons (ps_set (i := 3) sc_get.nd rfl (Or.inl rfl) (pe_tup (pa_cons (pe_df (d_number_of T) (hr.mono (by decide)) (pa_cons (pe_slice sl_list (pv 0) (po_some pe_int) (po_some pe_int)) pa_nil)) (pa_cons (pe_df (d_number_of T) (hr.mono (by decide)) (pa_cons (pe_slice sl_list (pv 0) (po_some pe_int) (po_some pe_int)) pa_nil)) pa_nil))))
      (pss_cons (ps_set (i := 4) sc_get.nd rfl (Or.inl rfl) (pe_tup (pa_cons (pe_df (d_number_of T) (hr.mono (by decide)) (pa_cons (pe_slice sl_list (pv 0) (po_some pe_int) (po_some pe_int)) pa_nil)) (pa_cons (pe_df (d_number_of T) (hr.mono (by decide)) (pa_cons (pe_slice sl_list (pv 0) (po_some pe_int) (po_some pe_int)) pa_nil)) pa_nil))))
      (pss_one (ps_ret (pe_op op_catA (pe_op op_catA (pv 3) (pv 4)) (pe_tup (pa_cons (pe_ix ix_list (pv 0) pe_int (fun _ _ => rfl)) (pa_cons (pe_df (d_number_of T) (hr.mono (by decide)) (pa_cons (pe_slice sl_list (pv 0) (po_some pe_int) (po_some pe_int)) pa_nil)) (pa_cons (pv 2) (pa_cons (pe_callTy call_tuple_of (by rfl) (T.free 63) (by decide +kernel) (pa_cons (pe_slice sl_list (pv 0) (po_some (pv 1)) po_none) pa_nil)) pa_nil)))))))))))))), fun F l rs Q h => ?_⟩)
  · obtain ⟨⟨row, rfl, hz, hr, rfl⟩, rfl⟩ := h
    rfl
  · obtain ⟨row, rfl, hz, hr⟩ := h
    rfl
  · obtain ⟨row, rfl, hz, hcase⟩ : ∃ row, l = [Lg.li row] ∧ row.length ≤ 10000 ∧ ((M.isRight row = true ∧ ∀ v F' H', Sub F F' → Lg.Dv K F' (Lg.sg (M.getS row)) v → Lg.Ow F' rs H' → Q v H') ∨ (M.isRight row = false ∧ ∀ F' H', Sub F F' → Lg.Ow F' rs H' → E (.ref (He.ga K "NoSegment")) none H'))
    · rcases h with ⟨d, rs', ⟨⟨row, rfl, hz, hr, rfl⟩, rfl⟩, k⟩ | ⟨⟨row, rfl, hz, hr⟩, k⟩
      · exact ⟨row, rfl, hz, .inl ⟨hr, k⟩⟩
      · exact ⟨row, rfl, hz, .inr ⟨hr, k⟩⟩
    refine Lg.g_when (Lg.tNot_ (Lg.tstB (Lg.call (Lg.cons_ (Lg.var (n := 0) rfl) Lg.nil_) ⟨⟨_, rfl, by omega, rfl⟩, rfl⟩))) (fun h1 => ?_) (fun h1 => ?_)
    · rcases hcase with ⟨hr2, _⟩ | ⟨_, k⟩
      · rw [hr2] at h1; cases h1
      · exact Lg.g_raise fun F1 H1 s1 o1 => k F1 H1 s1 o1
    have hright : M.isRight row = true := by cases z : M.isRight row with | true => rfl | false => rw [z] at h1; cases h1
    rcases hcase with ⟨_, k⟩ | ⟨hr2, _⟩
    case inr => rw [hright] at hr2; cases hr2
    have l1 : 20 ≤ row.length := M.right_len hright
    refine Lg.g_asg (ii := 1) (Lg.iC ⟨by decide, by decide⟩ (Lg.ixLi (Lg.var (n := 0) rfl) Lg.cInt ⟨by decide, by omega⟩) Lg.cInt) ?_
    refine Lg.g_asg (ii := 2) Lg.cInt ?_
    refine Lg.g_ifV Lg.Da.int (fun m => m = (if decide (M.at_ row 12 / 4 = 24) = true then M.number_of (M.sl row (some 22) (some 24)) else 0)) (Lg.tst (Lg.eqI (Lg.var (n := 1) rfl) Lg.cInt)) (fun h2 => ⟨_, (Lg.c_number_of (Lg.cons_ (Lg.slLi (Lg.var (n := 0) rfl) (Lg.oYes Lg.cInt) (Lg.oYes Lg.cInt)) Lg.nil_)), ?_⟩) (fun h2 => ⟨0, rfl, ?_⟩) (fun m hm => ?_)
    · exact (if_pos h2).symm
    · exact (if_neg (fun z => Bool.false_ne_true (h2.symm.trans z))).symm
    refine Lg.g_asg (ii := 3) (Lg.tup_ (Lg.cons_ (Lg.c_number_of (Lg.cons_ (Lg.slLi (Lg.var (n := 0) rfl) (Lg.oYes Lg.cInt) (Lg.oYes Lg.cInt)) Lg.nil_)) (Lg.cons_ (Lg.c_number_of (Lg.cons_ (Lg.slLi (Lg.var (n := 0) rfl) (Lg.oYes Lg.cInt) (Lg.oYes Lg.cInt)) Lg.nil_)) Lg.nil_)) (sz rfl)) ?_
    refine Lg.g_asg (ii := 4) (Lg.tup_ (Lg.cons_ (Lg.c_number_of (Lg.cons_ (Lg.slLi (Lg.var (n := 0) rfl) (Lg.oYes Lg.cInt) (Lg.oYes Lg.cInt)) Lg.nil_)) (Lg.cons_ (Lg.c_number_of (Lg.cons_ (Lg.slLi (Lg.var (n := 0) rfl) (Lg.oYes Lg.cInt) (Lg.oYes Lg.cInt)) Lg.nil_)) Lg.nil_)) (sz rfl)) ?_
    subst hm
    exact Lg.g_ret (Lg.catT (Lg.catT (Lg.var (n := 3) rfl) (Lg.var (n := 4) rfl) (sz rfl)) (Lg.tup_ (Lg.cons_ (Lg.ixLi (Lg.var (n := 0) rfl) Lg.cInt ⟨by decide, by omega⟩) (Lg.cons_ (Lg.c_number_of (Lg.cons_ (Lg.slLi (Lg.var (n := 0) rfl) (Lg.oYes Lg.cInt) (Lg.oYes Lg.cInt)) Lg.nil_)) (Lg.cons_ (Lg.var (n := 2) rfl) (Lg.cons_ (Lg.tupL (Lg.slLi (Lg.var (n := 0) rfl) (Lg.oYes (Lg.var (n := 1) rfl)) Lg.oNo)) Lg.nil_)))) (sz rfl)) (sz rfl)) rfl k
theorem sc_at_closed : FnScope ["end", "segment"] ["end", "segment"] (defScope s_at_closed) := ⟨rfl, rfl, rfl, by decide +kernel, rfl, by decide +kernel, by decide +kernel⟩
theorem d_at_closed (T : Tx fa fn ex w K mg) : Df P w K mg base CX0 4 "at_closed" ["end", "segment"] (Lg.SpG K (Lg.RE K Lg.R_at_closed)) := by
  refine Lg.df_mkG T 42 65 rfl rfl sc_at_closed (fun kV doc pm an cdv ct us hl => match us, hl with | [_, _], _ => rfl) (fun l rs d rs' h => ?_) (fun f cdv A outer s H E0 hr => ⟨_, PSs.nox (pss_one (ps_if (pt_not (pt_val (pe_df (d_has T) (hr.mono (by decide)) (pa_cons (pv 1) (pa_cons (pe_gi (T.int 31)) pa_nil))))) (pss_one (ps_expr (pe_df (d_reset_for T) (hr.mono (by decide)) (pa_cons (pv 0) (pa_cons (pv 1) pa_nil))))) pss_nil)), fun F l rs d rs' Q h k => ?_⟩)
  · obtain ⟨p, e, _, r, _, rfl, rfl, ⟨s, rfl, rfl, rfl⟩, rfl⟩ := h
    rfl
  · obtain ⟨p, e, _, r, _, rfl, rfl, ⟨s, rfl, rfl, rfl⟩, rfl⟩ := h
    have EF := EFT T
    refine Lg.g_when1 (Lg.tNot_ (Lg.tstB (Lg.call (Lg.cons_ (Lg.var (n := 1) rfl) (Lg.cons_ Lg.cInt Lg.nil_)) ⟨⟨_, _, rfl, ⟨by decide, by decide⟩, rfl⟩, rfl⟩))) (fun h1 => ?_) (fun h1 => ?_)
    · refine Lg.g_drop1 (Lg.callE (Lg.cons_ (Lg.var (n := 0) rfl) (Lg.cons_ (Lg.var (n := 1) rfl) Lg.nil_)) .here ⟨_, rfl, rfl, rfl⟩) ?_
      rw [show E.at_closed e s = _ from (if_pos h1)] at k; exact Lg.g_end rfl k
    · rw [show E.at_closed e s = _ from (if_neg (M.fne h1))] at k; exact Lg.g_end rfl k
theorem sc_at_listen : FnScope ["end", "segment"] ["end", "segment"] (defScope s_at_listen) := ⟨rfl, rfl, rfl, by decide +kernel, rfl, by decide +kernel, by decide +kernel⟩
theorem d_at_listen (T : Tx fa fn ex w K mg) : Df P w K mg base CX0 4 "at_listen" ["end", "segment"] (Lg.SpG K (Lg.RE K Lg.R_at_listen)) := by
  refine Lg.df_mkG T 43 66 rfl rfl sc_at_listen (fun kV doc pm an cdv ct us hl => match us, hl with | [_, _], _ => rfl) (fun l rs d rs' h => ?_) (fun f cdv A outer s H E0 hr => ⟨_, PSs.nox (pss_cons (ps_if (pt_val (pe_df (d_has T) (hr.mono (by decide)) (pa_cons (pv 1) (pa_cons (pe_gi (T.int 31)) pa_nil)))) (pss_one (ps_ret pe_non)) pss_nil)
      (pss_cons (ps_if (pt_val (pe_df (d_has T) (hr.mono (by decide)) (pa_cons (pv 1) (pa_cons (pe_gi (T.int 32)) pa_nil)))) (pss_one (ps_expr (pe_df (d_reset_for T) (hr.mono (by decide)) (pa_cons (pv 0) (pa_cons (pv 1) pa_nil))))) (pss_one (ps_if (pt_val (pe_df (d_has T) (hr.mono (by decide)) (pa_cons (pv 1) (pa_cons (pe_gi (T.int 26)) pa_nil)))) (pss_cons (ps_fld (pv 0) (pe_ix ix_tup (pv 1) pe_int (fun _ _ => rfl)) rfl)
      (pss_cons (ps_expr (pe_df (d_hear_syn T) (hr.mono (by decide)) (pa_cons (pv 0) (pa_cons (pv 1) pa_nil))))
      (pss_cons (ps_fld (pv 0) pe_int rfl)
      (pss_one (ps_fld (pv 0) (pe_gs (T.str 22)) rfl))))) pss_nil)))
      (pss_one (ps_ret pe_non)))), fun F l rs d rs' Q h k => ?_⟩)
  · obtain ⟨p, e, _, r, _, rfl, rfl, ⟨s, rfl, rfl, rfl⟩, rfl⟩ := h
    rfl
  · obtain ⟨p, e, _, r, _, rfl, rfl, ⟨s, rfl, rfl, rfl⟩, rfl⟩ := h
    have EF := EFT T
    refine Lg.g_when (Lg.tstB (Lg.call (Lg.cons_ (Lg.var (n := 1) rfl) (Lg.cons_ Lg.cInt Lg.nil_)) ⟨⟨_, _, rfl, ⟨by decide, by decide⟩, rfl⟩, rfl⟩)) (fun h1 => ?_) (fun h1 => ?_)
    · rw [show E.at_listen e s = _ from (if_pos h1)] at k; exact Lg.g_ret Lg.cNon rfl k
    · refine Lg.g_if (Lg.tstB (Lg.call (Lg.cons_ (Lg.var (n := 1) rfl) (Lg.cons_ Lg.cInt Lg.nil_)) ⟨⟨_, _, rfl, ⟨by decide, by decide⟩, rfl⟩, rfl⟩)) (fun h2 => ?_) (fun h2 => ?_)
      · refine Lg.g_drop1 (Lg.callE (Lg.cons_ (Lg.var (n := 0) rfl) (Lg.cons_ (Lg.var (n := 1) rfl) Lg.nil_)) .here ⟨_, rfl, rfl, rfl⟩) ?_
        refine Lg.g_next ?_
        rw [show E.at_listen e s = _ from ((if_neg (M.fne h1)).trans (if_pos h2))] at k; exact Lg.g_ret Lg.cNon rfl k
      · refine Lg.g_when1 (Lg.tstB (Lg.call (Lg.cons_ (Lg.var (n := 1) rfl) (Lg.cons_ Lg.cInt Lg.nil_)) ⟨⟨_, _, rfl, ⟨by decide, by decide⟩, rfl⟩, rfl⟩)) (fun h3 => ?_) (fun h3 => ?_)
        · refine Lg.w_theirs EF (Lg.ixT (n := 0) (Lg.var (n := 1) rfl) Lg.cInt rfl) (Lg.var (n := 0) rfl) .here ?_
          refine Lg.g_drop (Lg.callE (Lg.cons_ (Lg.var (n := 0) rfl) (Lg.cons_ (Lg.var (n := 1) rfl) Lg.nil_)) .here ⟨_, rfl, rfl, rfl⟩) ?_
          refine Lg.w_told_by EF Lg.cInt (Lg.var (n := 0) rfl) .here ?_
          refine Lg.w1_state EF (Lg.cSt .synCome) (Lg.var (n := 0) rfl) .here ?_
          refine Lg.g_next ?_
          rw [show E.at_listen e s = _ from ((if_neg (M.fne h1)).trans ((if_neg (M.fne h2)).trans (if_pos h3)))] at k; exact Lg.g_ret Lg.cNon rfl k
        · refine Lg.g_next ?_
          rw [show E.at_listen e s = _ from ((if_neg (M.fne h1)).trans ((if_neg (M.fne h2)).trans (if_neg (M.fne h3))))] at k; exact Lg.g_ret Lg.cNon rfl k
theorem sc_at_syn_sent : FnScope ["end", "segment", "now", "answers"] ["end", "segment", "now"] (defScope s_at_syn_sent) := ⟨rfl, rfl, rfl, by decide +kernel, rfl, by decide +kernel, by decide +kernel⟩
theorem d_at_syn_sent (T : Tx fa fn ex w K mg) : Df P w K mg base CX0 4 "at_syn_sent" ["end", "segment", "now"] (Lg.SpG K (Lg.RE K Lg.R_at_syn_sent)) := by
  refine Lg.df_mkG T 44 67 rfl rfl sc_at_syn_sent (fun kV doc pm an cdv ct us hl => match us, hl with | [_, _, _], _ => rfl) (fun l rs d rs' h => ?_) (fun f cdv A outer s H E0 hr => ⟨_, PSs.nox (pss_cons (ps_set (i := 3) sc_at_syn_sent.nd rfl (Or.inl rfl) (pe_df (d_has T) (hr.mono (by decide)) (pa_cons (pv 1) (pa_cons (pe_gi (T.int 32)) pa_nil))))
      (pss_cons (ps_if (PW.pt (pw_and (pt_truth (pv 3) (fun _ => rfl)) (pw_and1 (PW.pt (pw_or (pt_cmpR op_ne (pe_ix ix_tup (pv 1) pe_int (fun _ _ => rfl)) (pe_df (d_plus T) (hr.mono (by decide)) (pa_cons (pe_fld (pv 0) rfl) (pa_cons pe_int pa_nil))) (nomark _)) (pw_or1 (pt_cmpR op_eq (pe_fld (pv 0) rfl) (pe_fld (pv 0) rfl) (nomark _)))))))) (pss_cons (ps_if (pt_not (pt_val (pe_df (d_has T) (hr.mono (by decide)) (pa_cons (pv 1) (pa_cons (pe_gi (T.int 31)) pa_nil))))) (pss_one (ps_expr (pe_df (d_reset_for T) (hr.mono (by decide)) (pa_cons (pv 0) (pa_cons (pv 1) pa_nil))))) pss_nil)
      (pss_one (ps_ret pe_non))) pss_nil)
      (pss_cons (ps_if (pt_val (pe_df (d_has T) (hr.mono (by decide)) (pa_cons (pv 1) (pa_cons (pe_gi (T.int 31)) pa_nil)))) (pss_cons (ps_if (pt_truth (pv 3) (fun _ => rfl)) (pss_one (ps_expr (pe_df (d_shut T) (hr.mono (by decide)) (pa_cons (pv 0) (pa_cons pe_str pa_nil))))) pss_nil)
      (pss_one (ps_ret pe_non))) pss_nil)
      (pss_cons (ps_if (pt_not (pt_val (pe_df (d_has T) (hr.mono (by decide)) (pa_cons (pv 1) (pa_cons (pe_gi (T.int 26)) pa_nil))))) (pss_one (ps_ret pe_non)) pss_nil)
      (pss_cons (ps_expr (pe_df (d_hear_syn T) (hr.mono (by decide)) (pa_cons (pv 0) (pa_cons (pv 1) pa_nil))))
      (pss_cons (ps_if (pt_not (pt_truth (pv 3) (fun _ => rfl))) (pss_cons (ps_fld (pv 0) pe_int rfl)
      (pss_cons (ps_fld (pv 0) (pe_gs (T.str 22)) rfl)
      (pss_cons (ps_expr (pe_df (d_start T) (hr.mono (by decide)) (pa_cons (pv 0) (pa_cons (pv 2) pa_nil))))
      (pss_cons (ps_fld (pv 0) pe_bl rfl)
      (pss_one (ps_ret pe_non)))))) pss_nil)
      (pss_cons (ps_fld (pv 0) (pe_df (d_plus T) (hr.mono (by decide)) (pa_cons (pe_fld (pv 0) rfl) (pa_cons pe_int pa_nil))) rfl)
      (pss_cons (ps_fld (pv 0) pe_bl rfl)
      (pss_cons (ps_fld (pv 0) (pe_ifExp (pt_truth (pe_fld (pv 0) rfl) (fun _ => rfl)) (pe_gs (T.str 36)) (pe_gs (T.str 44))) rfl)
      (pss_cons (ps_fld (pv 0) pe_bl rfl)
      (pss_one (ps_ret pe_non)))))))))))), fun F l rs d rs' Q h k => ?_⟩)
  · obtain ⟨p, e, _, r, _, rfl, rfl, ⟨s, now, rfl, rfl, rfl⟩, rfl⟩ := h
    rfl
  · obtain ⟨p, e, _, r, _, rfl, rfl, ⟨s, now, rfl, rfl, rfl⟩, rfl⟩ := h
    have EF := EFT T
    refine Lg.g_asg (ii := 3) (Lg.call (Lg.cons_ (Lg.var (n := 1) rfl) (Lg.cons_ Lg.cInt Lg.nil_)) ⟨⟨_, _, rfl, ⟨by decide, by decide⟩, rfl⟩, rfl⟩) ?_
    refine Lg.g_when (Lg.tAnd_ (Lg.truB (Lg.var (n := 3) rfl)) (fun hc1 => (Lg.tOr_ (Lg.tst (Lg.neI (Lg.ixT (n := 3) (Lg.var (n := 1) rfl) Lg.cInt rfl) (Lg.c_plus (Lg.cons_ (Lg.r_first EF (Lg.var (n := 0) rfl) .here) (Lg.cons_ Lg.cInt Lg.nil_))))) (fun hc2 => (Lg.tst (Lg.eqI (Lg.r_nxt EF (Lg.var (n := 0) rfl) .here) (Lg.r_first EF (Lg.var (n := 0) rfl) .here))))))) (fun h1 => ?_) (fun h1 => ?_)
    · refine Lg.g_when (Lg.tNot_ (Lg.tstB (Lg.call (Lg.cons_ (Lg.var (n := 1) rfl) (Lg.cons_ Lg.cInt Lg.nil_)) ⟨⟨_, _, rfl, ⟨by decide, by decide⟩, rfl⟩, rfl⟩))) (fun h2 => ?_) (fun h2 => ?_)
      · refine Lg.g_drop1 (Lg.callE (Lg.cons_ (Lg.var (n := 0) rfl) (Lg.cons_ (Lg.var (n := 1) rfl) Lg.nil_)) .here ⟨_, rfl, rfl, rfl⟩) ?_
        refine Lg.g_next ?_
        rw [show E.at_syn_sent e s now = _ from ((if_pos h1).trans (if_pos h2))] at k; exact Lg.g_ret Lg.cNon rfl k
      · rw [show E.at_syn_sent e s now = _ from ((if_pos h1).trans (if_neg (M.fne h2)))] at k; exact Lg.g_ret Lg.cNon rfl k
    · refine Lg.g_when (Lg.tstB (Lg.call (Lg.cons_ (Lg.var (n := 1) rfl) (Lg.cons_ Lg.cInt Lg.nil_)) ⟨⟨_, _, rfl, ⟨by decide, by decide⟩, rfl⟩, rfl⟩)) (fun h2 => ?_) (fun h2 => ?_)
      · refine Lg.g_when (Lg.truB (Lg.var (n := 3) rfl)) (fun h3 => ?_) (fun h3 => ?_)
        · refine Lg.g_drop1 (Lg.callE (Lg.cons_ (Lg.var (n := 0) rfl) (Lg.cons_ (Lg.cEt .refused) Lg.nil_)) .here ⟨_, rfl, rfl, rfl⟩) ?_
          refine Lg.g_next ?_
          rw [show E.at_syn_sent e s now = _ from ((if_neg (M.fne h1)).trans ((if_pos h2).trans (if_pos h3)))] at k; exact Lg.g_ret Lg.cNon rfl k
        · rw [show E.at_syn_sent e s now = _ from ((if_neg (M.fne h1)).trans ((if_pos h2).trans (if_neg (M.fne h3))))] at k; exact Lg.g_ret Lg.cNon rfl k
      · refine Lg.g_when (Lg.tNot_ (Lg.tstB (Lg.call (Lg.cons_ (Lg.var (n := 1) rfl) (Lg.cons_ Lg.cInt Lg.nil_)) ⟨⟨_, _, rfl, ⟨by decide, by decide⟩, rfl⟩, rfl⟩))) (fun h3 => ?_) (fun h3 => ?_)
        · rw [show E.at_syn_sent e s now = _ from ((if_neg (M.fne h1)).trans ((if_neg (M.fne h2)).trans (if_pos h3)))] at k; exact Lg.g_ret Lg.cNon rfl k
        · refine Lg.g_drop (Lg.callE (Lg.cons_ (Lg.var (n := 0) rfl) (Lg.cons_ (Lg.var (n := 1) rfl) Lg.nil_)) .here ⟨_, rfl, rfl, rfl⟩) ?_
          refine Lg.g_when (Lg.tNot_ (Lg.truB (Lg.var (n := 3) rfl))) (fun h4 => ?_) (fun h4 => ?_)
          · refine Lg.w_told_by EF Lg.cInt (Lg.var (n := 0) rfl) .here ?_
            refine Lg.w_state EF (Lg.cSt .synCome) (Lg.var (n := 0) rfl) .here ?_
            refine Lg.g_drop (Lg.callE (Lg.cons_ (Lg.var (n := 0) rfl) (Lg.cons_ (Lg.var (n := 2) rfl) Lg.nil_)) .here ⟨_, rfl, rfl, rfl⟩) ?_
            refine Lg.w_owes_syn EF Lg.cBl (Lg.var (n := 0) rfl) .here ?_
            rw [show E.at_syn_sent e s now = _ from ((if_neg (M.fne h1)).trans ((if_neg (M.fne h2)).trans ((if_neg (M.fne h3)).trans (if_pos h4))))] at k; exact Lg.g_ret Lg.cNon rfl k
          · refine Lg.w_una EF (Lg.c_plus (Lg.cons_ (Lg.r_first EF (Lg.var (n := 0) rfl) .here) (Lg.cons_ Lg.cInt Lg.nil_))) (Lg.var (n := 0) rfl) .here ?_
            refine Lg.w_synced EF Lg.cBl (Lg.var (n := 0) rfl) .here ?_
            refine Lg.w_state EF (Lg.ifeSt (Lg.truB (Lg.r_fin EF (Lg.var (n := 0) rfl) .here)) (fun hc => (Lg.cSt .waitOne)) (fun hc => (Lg.cSt .opn))) (Lg.var (n := 0) rfl) .here ?_
            refine Lg.w_owes_answer EF Lg.cBl (Lg.var (n := 0) rfl) .here ?_
            rw [show E.at_syn_sent e s now = _ from ((if_neg (M.fne h1)).trans ((if_neg (M.fne h2)).trans ((if_neg (M.fne h3)).trans (if_neg (M.fne h4)))))] at k; exact Lg.g_ret Lg.cNon rfl k
theorem sc_first_answer : FnScope ["end", "segment"] ["end", "segment"] (defScope s_first_answer) := ⟨rfl, rfl, rfl, by decide +kernel, rfl, by decide +kernel, by decide +kernel⟩
theorem d_first_answer (T : Tx fa fn ex w K mg) : Df P w K mg base CX0 4 "first_answer" ["end", "segment"] (Lg.SpG K (Lg.RE K Lg.R_first_answer)) := by
  refine Lg.df_mkG T 45 68 rfl rfl sc_first_answer (fun kV doc pm an cdv ct us hl => match us, hl with | [_, _], _ => rfl) (fun l rs d rs' h => ?_) (fun f cdv A outer s H E0 hr => ⟨_, PSs.nox (pss_cons (ps_if (PW.pt (pw_or (pt_cmpR op_ne (pe_ix ix_tup (pv 1) pe_int (fun _ _ => rfl)) (pe_fld (pv 0) rfl) (nomark _)) (pw_or1 (pt_cmpR op_eq (pe_fld (pv 0) rfl) (pe_fld (pv 0) rfl) (nomark _))))) (pss_cons (ps_expr (pe_df (d_reset_for T) (hr.mono (by decide)) (pa_cons (pv 0) (pa_cons (pv 1) pa_nil))))
      (pss_one (ps_ret pe_bl))) pss_nil)
      (pss_cons (ps_fld (pv 0) (pe_ix ix_tup (pv 1) pe_int (fun _ _ => rfl)) rfl)
      (pss_cons (ps_fld (pv 0) pe_bl rfl)
      (pss_cons (ps_fld (pv 0) (pe_ifExp (pt_truth (pe_fld (pv 0) rfl) (fun _ => rfl)) (pe_gs (T.str 36)) (pe_gs (T.str 44))) rfl)
      (pss_cons (ps_expr (pe_df (d_hear_window T) (hr.mono (by decide)) (pa_cons (pv 0) (pa_cons (pv 1) pa_nil))))
      (pss_one (ps_ret pe_bl))))))), fun F l rs d rs' Q h k => ?_⟩)
  · obtain ⟨p, e, _, r, _, rfl, rfl, ⟨s, rfl, rfl, rfl⟩, rfl⟩ := h
    rfl
  · obtain ⟨p, e, _, r, _, rfl, rfl, ⟨s, rfl, rfl, rfl⟩, rfl⟩ := h
    have EF := EFT T
    refine Lg.g_when (Lg.tOr_ (Lg.tst (Lg.neI (Lg.ixT (n := 3) (Lg.var (n := 1) rfl) Lg.cInt rfl) (Lg.r_nxt EF (Lg.var (n := 0) rfl) .here))) (fun hc1 => (Lg.tst (Lg.eqI (Lg.r_nxt EF (Lg.var (n := 0) rfl) .here) (Lg.r_first EF (Lg.var (n := 0) rfl) .here))))) (fun h1 => ?_) (fun h1 => ?_)
    · refine Lg.g_drop (Lg.callE (Lg.cons_ (Lg.var (n := 0) rfl) (Lg.cons_ (Lg.var (n := 1) rfl) Lg.nil_)) .here ⟨_, rfl, rfl, rfl⟩) ?_
      rw [show E.first_answer e s = _ from (if_pos h1)] at k; exact Lg.g_ret Lg.cBl rfl k
    · refine Lg.w_una EF (Lg.ixT (n := 3) (Lg.var (n := 1) rfl) Lg.cInt rfl) (Lg.var (n := 0) rfl) .here ?_
      refine Lg.w_synced EF Lg.cBl (Lg.var (n := 0) rfl) .here ?_
      refine Lg.w_state EF (Lg.ifeSt (Lg.truB (Lg.r_fin EF (Lg.var (n := 0) rfl) .here)) (fun hc => (Lg.cSt .waitOne)) (fun hc => (Lg.cSt .opn))) (Lg.var (n := 0) rfl) .here ?_
      refine Lg.g_drop (Lg.callE (Lg.cons_ (Lg.var (n := 0) rfl) (Lg.cons_ (Lg.var (n := 1) rfl) Lg.nil_)) .here ⟨_, rfl, rfl, rfl⟩) ?_
      rw [show E.first_answer e s = _ from (if_neg (M.fne h1))] at k; exact Lg.g_ret Lg.cBl rfl k
theorem sc_data_comes : FnScope ["end", "segment", "now", "far"] ["end", "segment", "now"] (defScope s_data_comes) := ⟨rfl, rfl, rfl, by decide +kernel, rfl, by decide +kernel, by decide +kernel⟩
theorem d_data_comes (T : Tx fa fn ex w K mg) : Df P w K mg base CX0 4 "data_comes" ["end", "segment", "now"] (Lg.SpG K (Lg.RE K Lg.R_data_comes)) := by
  refine Lg.df_mkG T 46 70 rfl rfl sc_data_comes (fun kV doc pm an cdv ct us hl => match us, hl with | [_, _, _], _ => rfl) (fun l rs d rs' h => ?_) (fun f cdv A outer s H E0 hr => ⟨_, PSs.nox (pss_cons (ps_set (i := 3) sc_data_comes.nd rfl (Or.inl rfl) (pe_df (d_offset T) (hr.mono (by decide)) (pa_cons (pe_ix ix_tup (pv 1) pe_int (fun _ _ => rfl)) (pa_cons (pe_fld (pv 0) rfl) pa_nil))))
      (pss_cons (ps_if (pt_truth (pe_ix ix_tup (pv 1) pe_int (fun _ _ => rfl)) (fun _ => rfl)) (pss_cons (ps_expr (C8.pe_mt (m_Pile_keep T) hr (by decide) (pe_fld (pv 0) rfl) (pa_cons (pv 3) (pa_cons (pe_ix ix_tup (pv 1) pe_int (fun _ _ => rfl)) pa_nil))))
      (pss_one (ps_fld (pv 0) pe_bl rfl))) pss_nil)
      (pss_cons (ps_if (pt_val (pe_df (d_has T) (hr.mono (by decide)) (pa_cons (pv 1) (pa_cons (pe_gi (T.int 28)) pa_nil)))) (pss_cons (ps_expr (C8.pe_mt (m_Pile_keep_end T) hr (by decide) (pe_fld (pv 0) rfl) (pa_cons (pe_op op_add (pv 3) (pe_callB call_len_seq (by rfl) (T.free 10) PySem.boot_len (pa_cons (pe_ix ix_tup (pv 1) pe_int (fun _ _ => rfl)) pa_nil))) pa_nil)))
      (pss_one (ps_fld (pv 0) pe_bl rfl))) pss_nil)
      (pss_cons (ps_fld (pv 0) (pe_df (d_plus T) (hr.mono (by decide)) (pa_cons (pe_fld (pv 0) rfl) (pa_cons (C8.pe_mt0 (m_Pile_settle T) hr (by decide) (pe_fld (pv 0) rfl)) pa_nil))) rfl)
      (pss_cons (ps_if (pt_not (pt_val (C8.pe_mt0 (m_Pile_is_over T) hr (by decide) (pe_fld (pv 0) rfl)))) (pss_one (ps_ret pe_non)) pss_nil)
      (pss_cons (ps_fld (pv 0) (pe_df (d_plus T) (hr.mono (by decide)) (pa_cons (pe_fld (pv 0) rfl) (pa_cons pe_int pa_nil))) rfl)
      (pss_cons (ps_if (pt_cmpR op_eq (pe_fld (pv 0) rfl) (pe_gs (T.str 44)) (nomark _)) (pss_one (ps_fld (pv 0) (pe_gs (T.str 69)) rfl)) (pss_one (ps_if (pt_cmpR op_eq (pe_fld (pv 0) rfl) (pe_gs (T.str 36)) (nomark _)) (pss_one (ps_fld (pv 0) (pe_gs (T.str 38)) rfl)) (pss_cons (ps_fld (pv 0) (pe_gs (T.str 33)) rfl)
      (pss_one (ps_fld (pv 0) (pv 2) rfl))))))
      (pss_one (ps_ret pe_non))))))))), fun F l rs d rs' Q h k => ?_⟩)
  · obtain ⟨p, e, _, r, _, rfl, rfl, ⟨s, now, rfl, hp, hd, rfl, rfl⟩, rfl⟩ := h
    rfl
  · obtain ⟨p, e, _, r, _, rfl, rfl, ⟨s, now, rfl, hp, hd, rfl, rfl⟩, rfl⟩ := h
    have EF := EFT T
    refine Lg.g_asg (ii := 3) (Lg.c_offset (Lg.cons_ (Lg.ixT (n := 2) (Lg.var (n := 1) rfl) Lg.cInt rfl) (Lg.cons_ (Lg.r_rcv EF (Lg.var (n := 0) rfl) .here) Lg.nil_))) ?_
    refine Lg.g_when (Lg.truTi (Lg.ixT (n := 7) (Lg.var (n := 1) rfl) Lg.cInt rfl)) (fun h1 => ?_) (fun h1 => ?_)
    · refine Lg.g_drop (Lg.pileE EF (Lg.var (n := 0) rfl) .here (fun rs' => (Lg.cons_ (Lg.var (n := 3) rfl) (Lg.cons_ (Lg.ixT (n := 7) (Lg.var (n := 1) rfl) Lg.cInt rfl) Lg.nil_))) (fun q hl el => by kernel_rfl) ⟨_, _, rfl, M.pzk hp, hd, rfl, rfl⟩) ?_
      refine Lg.w1_owes_answer EF Lg.cBl (Lg.var (n := 0) rfl) .here ?_
      refine Lg.g_next ?_
      refine Lg.g_when (Lg.tstB (Lg.call (Lg.cons_ (Lg.var (n := 1) rfl) (Lg.cons_ Lg.cInt Lg.nil_)) ⟨⟨_, _, rfl, ⟨by decide, by decide⟩, rfl⟩, rfl⟩)) (fun h2 => ?_) (fun h2 => ?_)
      · refine Lg.g_drop (Lg.pileE EF (Lg.var (n := 0) rfl) .here (fun rs' => (Lg.cons_ (Lg.iI (Lg.var (n := 3) rfl) (Lg.lenTi (Lg.ixT (n := 7) (Lg.var (n := 1) rfl) Lg.cInt rfl))) Lg.nil_)) (fun q hl el => by kernel_rfl) ⟨_, rfl, rfl, rfl⟩) ?_
        refine Lg.w1_owes_answer EF Lg.cBl (Lg.var (n := 0) rfl) .here ?_
        refine Lg.g_next ?_
        refine Lg.w_rcv EF (Lg.c_plus (Lg.cons_ (Lg.r_rcv EF (Lg.var (n := 0) rfl) .here) (Lg.cons_ (Lg.pileE EF (Lg.var (n := 0) rfl) .here (fun rs' => Lg.nil_) (fun q hl el => by kernel_rfl) ⟨rfl, (by first | exact M.pz0 hp | exact M.pz1 hp hd | exact M.pz2 hp | exact M.pz3 hp hd), rfl, rfl⟩) Lg.nil_))) (Lg.var (n := 0) rfl) .here ?_
        refine Lg.g_when (Lg.tNot_ (Lg.tstB (Lg.pileE EF (Lg.var (n := 0) rfl) .here (fun rs' => Lg.nil_) (fun q hl el => by kernel_rfl) ⟨rfl, rfl, rfl⟩))) (fun h3 => ?_) (fun h3 => ?_)
        · rw [show E.data_comes e s now = _ from ((if_pos h1).trans ((if_pos h2).trans (if_pos h3)))] at k; exact Lg.g_ret Lg.cNon rfl k
        · refine Lg.w_rcv EF (Lg.c_plus (Lg.cons_ (Lg.r_rcv EF (Lg.var (n := 0) rfl) .here) (Lg.cons_ Lg.cInt Lg.nil_))) (Lg.var (n := 0) rfl) .here ?_
          refine Lg.g_if (Lg.tst (Lg.eqSt (Lg.r_state EF (Lg.var (n := 0) rfl) .here) (Lg.cSt .opn))) (fun h4 => ?_) (fun h4 => ?_)
          · refine Lg.w1_state EF (Lg.cSt .closeWait) (Lg.var (n := 0) rfl) .here ?_
            refine Lg.g_next ?_
            rw [show E.data_comes e s now = _ from ((if_pos h1).trans ((if_pos h2).trans ((if_neg (M.fne h3)).trans (if_pos h4))))] at k; exact Lg.g_ret Lg.cNon rfl k
          · refine Lg.g_if1 (Lg.tst (Lg.eqSt (Lg.r_state EF (Lg.var (n := 0) rfl) .here) (Lg.cSt .waitOne))) (fun h5 => ?_) (fun h5 => ?_)
            · refine Lg.w1_state EF (Lg.cSt .closing) (Lg.var (n := 0) rfl) .here ?_
              refine Lg.g_next ?_
              rw [show E.data_comes e s now = _ from ((if_pos h1).trans ((if_pos h2).trans ((if_neg (M.fne h3)).trans ((if_neg (M.fne h4)).trans (if_pos h5)))))] at k; exact Lg.g_ret Lg.cNon rfl k
            · refine Lg.w_state EF (Lg.cSt .timeWait) (Lg.var (n := 0) rfl) .here ?_
              refine Lg.w1_since EF (Lg.var (n := 2) rfl) (Lg.var (n := 0) rfl) .here ?_
              refine Lg.g_next ?_
              rw [show E.data_comes e s now = _ from ((if_pos h1).trans ((if_pos h2).trans ((if_neg (M.fne h3)).trans ((if_neg (M.fne h4)).trans (if_neg (M.fne h5))))))] at k; exact Lg.g_ret Lg.cNon rfl k
      · refine Lg.w_rcv EF (Lg.c_plus (Lg.cons_ (Lg.r_rcv EF (Lg.var (n := 0) rfl) .here) (Lg.cons_ (Lg.pileE EF (Lg.var (n := 0) rfl) .here (fun rs' => Lg.nil_) (fun q hl el => by kernel_rfl) ⟨rfl, (by first | exact M.pz0 hp | exact M.pz1 hp hd | exact M.pz2 hp | exact M.pz3 hp hd), rfl, rfl⟩) Lg.nil_))) (Lg.var (n := 0) rfl) .here ?_
        refine Lg.g_when (Lg.tNot_ (Lg.tstB (Lg.pileE EF (Lg.var (n := 0) rfl) .here (fun rs' => Lg.nil_) (fun q hl el => by kernel_rfl) ⟨rfl, rfl, rfl⟩))) (fun h3 => ?_) (fun h3 => ?_)
        · rw [show E.data_comes e s now = _ from ((if_pos h1).trans ((if_neg (M.fne h2)).trans (if_pos h3)))] at k; exact Lg.g_ret Lg.cNon rfl k
        · refine Lg.w_rcv EF (Lg.c_plus (Lg.cons_ (Lg.r_rcv EF (Lg.var (n := 0) rfl) .here) (Lg.cons_ Lg.cInt Lg.nil_))) (Lg.var (n := 0) rfl) .here ?_
          refine Lg.g_if (Lg.tst (Lg.eqSt (Lg.r_state EF (Lg.var (n := 0) rfl) .here) (Lg.cSt .opn))) (fun h4 => ?_) (fun h4 => ?_)
          · refine Lg.w1_state EF (Lg.cSt .closeWait) (Lg.var (n := 0) rfl) .here ?_
            refine Lg.g_next ?_
            rw [show E.data_comes e s now = _ from ((if_pos h1).trans ((if_neg (M.fne h2)).trans ((if_neg (M.fne h3)).trans (if_pos h4))))] at k; exact Lg.g_ret Lg.cNon rfl k
          · refine Lg.g_if1 (Lg.tst (Lg.eqSt (Lg.r_state EF (Lg.var (n := 0) rfl) .here) (Lg.cSt .waitOne))) (fun h5 => ?_) (fun h5 => ?_)
            · refine Lg.w1_state EF (Lg.cSt .closing) (Lg.var (n := 0) rfl) .here ?_
              refine Lg.g_next ?_
              rw [show E.data_comes e s now = _ from ((if_pos h1).trans ((if_neg (M.fne h2)).trans ((if_neg (M.fne h3)).trans ((if_neg (M.fne h4)).trans (if_pos h5)))))] at k; exact Lg.g_ret Lg.cNon rfl k
            · refine Lg.w_state EF (Lg.cSt .timeWait) (Lg.var (n := 0) rfl) .here ?_
              refine Lg.w1_since EF (Lg.var (n := 2) rfl) (Lg.var (n := 0) rfl) .here ?_
              refine Lg.g_next ?_
              rw [show E.data_comes e s now = _ from ((if_pos h1).trans ((if_neg (M.fne h2)).trans ((if_neg (M.fne h3)).trans ((if_neg (M.fne h4)).trans (if_neg (M.fne h5))))))] at k; exact Lg.g_ret Lg.cNon rfl k
    · refine Lg.g_when (Lg.tstB (Lg.call (Lg.cons_ (Lg.var (n := 1) rfl) (Lg.cons_ Lg.cInt Lg.nil_)) ⟨⟨_, _, rfl, ⟨by decide, by decide⟩, rfl⟩, rfl⟩)) (fun h2 => ?_) (fun h2 => ?_)
      · refine Lg.g_drop (Lg.pileE EF (Lg.var (n := 0) rfl) .here (fun rs' => (Lg.cons_ (Lg.iI (Lg.var (n := 3) rfl) (Lg.lenTi (Lg.ixT (n := 7) (Lg.var (n := 1) rfl) Lg.cInt rfl))) Lg.nil_)) (fun q hl el => by kernel_rfl) ⟨_, rfl, rfl, rfl⟩) ?_
        refine Lg.w1_owes_answer EF Lg.cBl (Lg.var (n := 0) rfl) .here ?_
        refine Lg.g_next ?_
        refine Lg.w_rcv EF (Lg.c_plus (Lg.cons_ (Lg.r_rcv EF (Lg.var (n := 0) rfl) .here) (Lg.cons_ (Lg.pileE EF (Lg.var (n := 0) rfl) .here (fun rs' => Lg.nil_) (fun q hl el => by kernel_rfl) ⟨rfl, (by first | exact M.pz0 hp | exact M.pz1 hp hd | exact M.pz2 hp | exact M.pz3 hp hd), rfl, rfl⟩) Lg.nil_))) (Lg.var (n := 0) rfl) .here ?_
        refine Lg.g_when (Lg.tNot_ (Lg.tstB (Lg.pileE EF (Lg.var (n := 0) rfl) .here (fun rs' => Lg.nil_) (fun q hl el => by kernel_rfl) ⟨rfl, rfl, rfl⟩))) (fun h3 => ?_) (fun h3 => ?_)
        · rw [show E.data_comes e s now = _ from ((if_neg (M.fne h1)).trans ((if_pos h2).trans (if_pos h3)))] at k; exact Lg.g_ret Lg.cNon rfl k
        · refine Lg.w_rcv EF (Lg.c_plus (Lg.cons_ (Lg.r_rcv EF (Lg.var (n := 0) rfl) .here) (Lg.cons_ Lg.cInt Lg.nil_))) (Lg.var (n := 0) rfl) .here ?_
          refine Lg.g_if (Lg.tst (Lg.eqSt (Lg.r_state EF (Lg.var (n := 0) rfl) .here) (Lg.cSt .opn))) (fun h4 => ?_) (fun h4 => ?_)
          · refine Lg.w1_state EF (Lg.cSt .closeWait) (Lg.var (n := 0) rfl) .here ?_
            refine Lg.g_next ?_
            rw [show E.data_comes e s now = _ from ((if_neg (M.fne h1)).trans ((if_pos h2).trans ((if_neg (M.fne h3)).trans (if_pos h4))))] at k; exact Lg.g_ret Lg.cNon rfl k
          · refine Lg.g_if1 (Lg.tst (Lg.eqSt (Lg.r_state EF (Lg.var (n := 0) rfl) .here) (Lg.cSt .waitOne))) (fun h5 => ?_) (fun h5 => ?_)
            · refine Lg.w1_state EF (Lg.cSt .closing) (Lg.var (n := 0) rfl) .here ?_
              refine Lg.g_next ?_
              rw [show E.data_comes e s now = _ from ((if_neg (M.fne h1)).trans ((if_pos h2).trans ((if_neg (M.fne h3)).trans ((if_neg (M.fne h4)).trans (if_pos h5)))))] at k; exact Lg.g_ret Lg.cNon rfl k
            · refine Lg.w_state EF (Lg.cSt .timeWait) (Lg.var (n := 0) rfl) .here ?_
              refine Lg.w1_since EF (Lg.var (n := 2) rfl) (Lg.var (n := 0) rfl) .here ?_
              refine Lg.g_next ?_
              rw [show E.data_comes e s now = _ from ((if_neg (M.fne h1)).trans ((if_pos h2).trans ((if_neg (M.fne h3)).trans ((if_neg (M.fne h4)).trans (if_neg (M.fne h5))))))] at k; exact Lg.g_ret Lg.cNon rfl k
      · refine Lg.w_rcv EF (Lg.c_plus (Lg.cons_ (Lg.r_rcv EF (Lg.var (n := 0) rfl) .here) (Lg.cons_ (Lg.pileE EF (Lg.var (n := 0) rfl) .here (fun rs' => Lg.nil_) (fun q hl el => by kernel_rfl) ⟨rfl, (by first | exact M.pz0 hp | exact M.pz1 hp hd | exact M.pz2 hp | exact M.pz3 hp hd), rfl, rfl⟩) Lg.nil_))) (Lg.var (n := 0) rfl) .here ?_
        refine Lg.g_when (Lg.tNot_ (Lg.tstB (Lg.pileE EF (Lg.var (n := 0) rfl) .here (fun rs' => Lg.nil_) (fun q hl el => by kernel_rfl) ⟨rfl, rfl, rfl⟩))) (fun h3 => ?_) (fun h3 => ?_)
        · rw [show E.data_comes e s now = _ from ((if_neg (M.fne h1)).trans ((if_neg (M.fne h2)).trans (if_pos h3)))] at k; exact Lg.g_ret Lg.cNon rfl k
        · refine Lg.w_rcv EF (Lg.c_plus (Lg.cons_ (Lg.r_rcv EF (Lg.var (n := 0) rfl) .here) (Lg.cons_ Lg.cInt Lg.nil_))) (Lg.var (n := 0) rfl) .here ?_
          refine Lg.g_if (Lg.tst (Lg.eqSt (Lg.r_state EF (Lg.var (n := 0) rfl) .here) (Lg.cSt .opn))) (fun h4 => ?_) (fun h4 => ?_)
          · refine Lg.w1_state EF (Lg.cSt .closeWait) (Lg.var (n := 0) rfl) .here ?_
            refine Lg.g_next ?_
            rw [show E.data_comes e s now = _ from ((if_neg (M.fne h1)).trans ((if_neg (M.fne h2)).trans ((if_neg (M.fne h3)).trans (if_pos h4))))] at k; exact Lg.g_ret Lg.cNon rfl k
          · refine Lg.g_if1 (Lg.tst (Lg.eqSt (Lg.r_state EF (Lg.var (n := 0) rfl) .here) (Lg.cSt .waitOne))) (fun h5 => ?_) (fun h5 => ?_)
            · refine Lg.w1_state EF (Lg.cSt .closing) (Lg.var (n := 0) rfl) .here ?_
              refine Lg.g_next ?_
              rw [show E.data_comes e s now = _ from ((if_neg (M.fne h1)).trans ((if_neg (M.fne h2)).trans ((if_neg (M.fne h3)).trans ((if_neg (M.fne h4)).trans (if_pos h5)))))] at k; exact Lg.g_ret Lg.cNon rfl k
            · refine Lg.w_state EF (Lg.cSt .timeWait) (Lg.var (n := 0) rfl) .here ?_
              refine Lg.w1_since EF (Lg.var (n := 2) rfl) (Lg.var (n := 0) rfl) .here ?_
              refine Lg.g_next ?_
              rw [show E.data_comes e s now = _ from ((if_neg (M.fne h1)).trans ((if_neg (M.fne h2)).trans ((if_neg (M.fne h3)).trans ((if_neg (M.fne h4)).trans (if_neg (M.fne h5))))))] at k; exact Lg.g_ret Lg.cNon rfl k
theorem sc_made : FnScope ["end", "number", "flags", "data"] ["end", "number", "flags", "data"] (defScope s_made) := ⟨rfl, rfl, rfl, by decide +kernel, rfl, by decide +kernel, by decide +kernel⟩
theorem d_made (T : Tx fa fn ex w K mg) : Df P w K mg base CX0 4 "made" ["end", "number", "flags", "data"] (Lg.SpG K (Lg.RE K Lg.R_made)) := by
  refine Lg.df_mkG T 47 71 rfl rfl sc_made (fun kV doc pm an cdv ct us hl => match us, hl with | [_, _, _, _], _ => rfl) (fun l rs d rs' h => ?_) (fun f cdv A outer s H E0 hr => ⟨_, PSs.nox (pss_one (ps_ret (pe_df (d_put T) (hr.mono (by decide)) (pa_cons (pe_tup (pa_cons (pe_fld (pv 0) rfl) (pa_cons (pe_fld (pv 0) rfl) (pa_cons (pv 1) (pa_cons (pe_fld (pv 0) rfl) (pa_cons (pe_op op_add (pv 2) (pe_gi (T.int 32))) (pa_cons (C8.pe_mt0 (m_Pile_room T) hr (by decide) (pe_fld (pv 0) rfl)) (pa_cons pe_int (pa_cons (pe_callTy call_tuple_of (by rfl) (T.free 63) (by decide +kernel) (pa_cons (pv 3) pa_nil)) pa_nil))))))))) pa_nil)))), fun F l rs d rs' Q h k => ?_⟩)
  · obtain ⟨p, e0, _, r, e, rfl, rfl, ⟨n, fl, data, rfl, hd, rfl, rfl⟩, rfl⟩ := h
    rfl
  · obtain ⟨p, e0, _, r, e, rfl, rfl, ⟨n, fl, data, rfl, hd, rfl, rfl⟩, rfl⟩ := h
    have EF := EFT T
    exact Lg.g_ret (Lg.call (Lg.cons_ (Lg.tup_ (Lg.cons_ (Lg.r_ours EF (Lg.var (n := 0) rfl) .here) (Lg.cons_ (Lg.r_theirs EF (Lg.var (n := 0) rfl) .here) (Lg.cons_ (Lg.var (n := 1) rfl) (Lg.cons_ (Lg.r_rcv EF (Lg.var (n := 0) rfl) .here) (Lg.cons_ (Lg.iI (Lg.var (n := 2) rfl) Lg.cInt) (Lg.cons_ (Lg.pileE EF (Lg.var (n := 0) rfl) .here (fun rs' => Lg.nil_) (fun q hl el => by kernel_rfl) ⟨rfl, rfl, rfl⟩) (Lg.cons_ Lg.cInt (Lg.cons_ (Lg.tupL (Lg.var (n := 3) rfl)) Lg.nil_)))))))) (sz rfl)) Lg.nil_) ⟨⟨⟨_, _, n, _, fl + 16, _, 0, data⟩, rfl, hd, rfl⟩, rfl⟩) rfl k
theorem sc_syn_made : FnScope ["end"] ["end"] (defScope s_syn_made) := ⟨rfl, rfl, rfl, by decide +kernel, rfl, by decide +kernel, by decide +kernel⟩
theorem d_syn_made (T : Tx fa fn ex w K mg) : Df P w K mg base CX0 4 "syn_made" ["end"] (Lg.SpG K (Lg.RE K Lg.R_syn_made)) := by
  refine Lg.df_mkG T 48 72 rfl rfl sc_syn_made (fun kV doc pm an cdv ct us hl => match us, hl with | [_], _ => rfl) (fun l rs d rs' h => ?_) (fun f cdv A outer s H E0 hr => ⟨_, PSs.nox (pss_cons (ps_if (pt_cmpR op_eq (pe_fld (pv 0) rfl) (pe_gs (T.str 22)) (nomark _)) (pss_one (ps_ret (pe_df (d_put T) (hr.mono (by decide)) (pa_cons (pe_tup (pa_cons (pe_fld (pv 0) rfl) (pa_cons (pe_fld (pv 0) rfl) (pa_cons (pe_fld (pv 0) rfl) (pa_cons (pe_fld (pv 0) rfl) (pa_cons (pe_op op_add (pe_gi (T.int 26)) (pe_gi (T.int 32))) (pa_cons (pe_gi (T.int 18)) (pa_cons (pe_gi (T.int 50)) (pa_cons (pe_tup pa_nil) pa_nil))))))))) pa_nil)))) pss_nil)
      (pss_one (ps_ret (pe_df (d_put T) (hr.mono (by decide)) (pa_cons (pe_tup (pa_cons (pe_fld (pv 0) rfl) (pa_cons (pe_fld (pv 0) rfl) (pa_cons (pe_fld (pv 0) rfl) (pa_cons pe_int (pa_cons (pe_gi (T.int 26)) (pa_cons (pe_gi (T.int 18)) (pa_cons (pe_gi (T.int 50)) (pa_cons (pe_tup pa_nil) pa_nil))))))))) pa_nil))))), fun F l rs d rs' Q h k => ?_⟩)
  · obtain ⟨p, e0, _, r, e, rfl, rfl, ⟨rfl, rfl, rfl⟩, rfl⟩ := h
    rfl
  · obtain ⟨p, e0, _, r, e, rfl, rfl, ⟨rfl, rfl, rfl⟩, rfl⟩ := h
    have EF := EFT T
    refine Lg.g_when (Lg.tst (Lg.eqSt (Lg.r_state EF (Lg.var (n := 0) rfl) .here) (Lg.cSt .synCome))) (fun h1 => ?_) (fun h1 => ?_)
    · exact Lg.g_ret (Lg.is_ (Lg.call (Lg.cons_ (Lg.tup_ (Lg.cons_ (Lg.r_ours EF (Lg.var (n := 0) rfl) .here) (Lg.cons_ (Lg.r_theirs EF (Lg.var (n := 0) rfl) .here) (Lg.cons_ (Lg.r_first EF (Lg.var (n := 0) rfl) .here) (Lg.cons_ (Lg.r_rcv EF (Lg.var (n := 0) rfl) .here) (Lg.cons_ (Lg.iI Lg.cInt Lg.cInt) (Lg.cons_ Lg.cInt (Lg.cons_ Lg.cInt (Lg.cons_ (Lg.tupI Lg.nilI (sz rfl)) Lg.nil_)))))))) (sz rfl)) Lg.nil_) ⟨⟨⟨_, _, _, _, 2 + 16, 64, 16, []⟩, rfl, Nat.zero_le _, rfl⟩, rfl⟩) (congrArg Lg.li (show E.syn_made e = _ from if_pos h1).symm)) rfl k
    · exact Lg.g_ret (Lg.is_ (Lg.call (Lg.cons_ (Lg.tup_ (Lg.cons_ (Lg.r_ours EF (Lg.var (n := 0) rfl) .here) (Lg.cons_ (Lg.r_theirs EF (Lg.var (n := 0) rfl) .here) (Lg.cons_ (Lg.r_first EF (Lg.var (n := 0) rfl) .here) (Lg.cons_ Lg.cInt (Lg.cons_ Lg.cInt (Lg.cons_ Lg.cInt (Lg.cons_ Lg.cInt (Lg.cons_ (Lg.tupI Lg.nilI (sz rfl)) Lg.nil_)))))))) (sz rfl)) Lg.nil_) ⟨⟨⟨_, _, _, 0, 2, 64, 16, []⟩, rfl, Nat.zero_le _, rfl⟩, rfl⟩) (congrArg Lg.li (show E.syn_made e = _ from if_neg (M.fne h1)).symm)) rfl k
theorem sc_gone : FnScope ["end", "now", "many"] ["end", "now", "many"] (defScope s_gone) := ⟨rfl, rfl, rfl, by decide +kernel, rfl, by decide +kernel, by decide +kernel⟩
theorem d_gone (T : Tx fa fn ex w K mg) : Df P w K mg base CX0 4 "gone" ["end", "now", "many"] (Lg.SpG K (Lg.RE K Lg.R_gone)) := by
  refine Lg.df_mkG T 49 73 rfl rfl sc_gone (fun kV doc pm an cdv ct us hl => match us, hl with | [_, _, _], _ => rfl) (fun l rs d rs' h => ?_) (fun f cdv A outer s H E0 hr => ⟨_, PSs.nox (pss_cons (ps_if (pt_cmpR op_eq (pe_df (d_outstanding T) (hr.mono (by decide)) (pa_cons (pv 0) pa_nil)) pe_int (nomark _)) (pss_one (ps_expr (pe_df (d_start T) (hr.mono (by decide)) (pa_cons (pv 0) (pa_cons (pv 1) pa_nil))))) pss_nil)
      (pss_cons (ps_fld (pv 0) (pe_df (d_plus T) (hr.mono (by decide)) (pa_cons (pe_fld (pv 0) rfl) (pa_cons (pv 2) pa_nil))) rfl)
      (pss_cons (ps_fld (pv 0) pe_bl rfl)
      (pss_one (ps_fld (pv 0) pe_bl rfl))))), fun F l rs d rs' Q h k => ?_⟩)
  · obtain ⟨p, e, _, r, _, rfl, rfl, ⟨now, many, rfl, rfl, rfl⟩, rfl⟩ := h
    rfl
  · obtain ⟨p, e, _, r, _, rfl, rfl, ⟨now, many, rfl, rfl, rfl⟩, rfl⟩ := h
    have EF := EFT T
    refine Lg.g_when (Lg.tst (Lg.eqI (Lg.callE (Lg.cons_ (Lg.var (n := 0) rfl) Lg.nil_) .here ⟨rfl, rfl, rfl⟩) Lg.cInt)) (fun h1 => ?_) (fun h1 => ?_)
    · refine Lg.g_drop1 (Lg.callE (Lg.cons_ (Lg.var (n := 0) rfl) (Lg.cons_ (Lg.var (n := 1) rfl) Lg.nil_)) .here ⟨_, rfl, rfl, rfl⟩) ?_
      refine Lg.g_next ?_
      refine Lg.w_nxt EF (Lg.c_plus (Lg.cons_ (Lg.r_nxt EF (Lg.var (n := 0) rfl) .here) (Lg.cons_ (Lg.var (n := 2) rfl) Lg.nil_))) (Lg.var (n := 0) rfl) .here ?_
      refine Lg.w_probing EF Lg.cBl (Lg.var (n := 0) rfl) .here ?_
      refine Lg.w1_owes_answer EF Lg.cBl (Lg.var (n := 0) rfl) .here ?_
      rw [show E.gone e now many = _ from (if_pos h1)] at k; exact Lg.g_end rfl k
    · refine Lg.w_nxt EF (Lg.c_plus (Lg.cons_ (Lg.r_nxt EF (Lg.var (n := 0) rfl) .here) (Lg.cons_ (Lg.var (n := 2) rfl) Lg.nil_))) (Lg.var (n := 0) rfl) .here ?_
      refine Lg.w_probing EF Lg.cBl (Lg.var (n := 0) rfl) .here ?_
      refine Lg.w1_owes_answer EF Lg.cBl (Lg.var (n := 0) rfl) .here ?_
      rw [show E.gone e now many = _ from (if_neg (M.fne h1))] at k; exact Lg.g_end rfl k
theorem sc_answer_comes : FnScope ["end", "segment", "now", "answer", "gone_on"] ["end", "segment", "now"] (defScope s_answer_comes) := ⟨rfl, rfl, rfl, by decide +kernel, rfl, by decide +kernel, by decide +kernel⟩
theorem d_answer_comes (T : Tx fa fn ex w K mg) : Df P w K mg base CX0 5 "answer_comes" ["end", "segment", "now"] (Lg.SpG K (Lg.RE K Lg.R_answer_comes)) := by
  refine Lg.df_mkG T 50 74 rfl rfl sc_answer_comes (fun kV doc pm an cdv ct us hl => match us, hl with | [_, _, _], _ => rfl) (fun l rs d rs' h => ?_) (fun f cdv A outer s H E0 hr => ⟨_, PSs.nox (pss_cons (ps_if (pt_cmpR op_eq (pe_fld (pv 0) rfl) (pe_gs (T.str 22)) (nomark _)) (pss_one (ps_ret (pe_df (d_first_answer T) (hr.mono (by decide)) (pa_cons (pv 0) (pa_cons (pv 1) pa_nil))))) pss_nil)
      (pss_cons (ps_set (i := 3) sc_answer_comes.nd rfl (Or.inl rfl) (pe_ix ix_tup (pv 1) pe_int (fun _ _ => rfl)))
      (pss_cons (ps_if (pt_val (pe_df (d_past T) (hr.mono (by decide)) (pa_cons (pv 3) (pa_cons (pe_fld (pv 0) rfl) pa_nil)))) (pss_cons (ps_fld (pv 0) pe_bl rfl)
      (pss_one (ps_ret pe_bl))) pss_nil)
      (pss_cons (ps_set (i := 4) sc_answer_comes.nd rfl (Or.inl rfl) (pe_df (d_past T) (hr.mono (by decide)) (pa_cons (pv 3) (pa_cons (pe_fld (pv 0) rfl) pa_nil))))
      (pss_cons (ps_if (pt_truth (pv 4) (fun _ => rfl)) (pss_cons (ps_fld (pv 0) (pe_slice sl_list (pe_fld (pv 0) rfl) (po_some (pe_df (d_offset T) (hr.mono (by decide)) (pa_cons (pv 3) (pa_cons (pe_fld (pv 0) rfl) pa_nil)))) po_none) rfl)
      (pss_cons (ps_fld (pv 0) (pv 3) rfl)
      (pss_one (ps_if (pt_cmpR op_gt (pe_df (d_outstanding T) (hr.mono (by decide)) (pa_cons (pv 0) pa_nil)) pe_int (nomark _)) (pss_one (ps_expr (pe_df (d_start T) (hr.mono (by decide)) (pa_cons (pv 0) (pa_cons (pv 2) pa_nil))))) pss_nil)))) pss_nil)
      (pss_cons (ps_if (pt_not (pt_val (pe_df (d_past T) (hr.mono (by decide)) (pa_cons (pe_fld (pv 0) rfl) (pa_cons (pv 3) pa_nil))))) (pss_one (ps_expr (pe_df (d_window_comes T) (hr.mono (by decide)) (pa_cons (pv 0) (pa_cons (pv 1) (pa_cons (pv 4) pa_nil)))))) pss_nil)
      (pss_cons (ps_if (PW.pt (pw_and (pt_truth (pe_fld (pv 0) rfl) (fun _ => rfl)) (pw_and1 (pt_cmpR op_eq (pe_fld (pv 0) rfl) (pe_fld (pv 0) rfl) (nomark _))))) (pss_one (ps_expr (pe_df (d_all_heard T) (hr.mono (by decide)) (pa_cons (pv 0) (pa_cons (pv 2) pa_nil))))) pss_nil)
      (pss_one (ps_ret (pe_cmpR op_ne (pe_fld (pv 0) rfl) (pe_gs (T.str 6)) (nomark _))))))))))), fun F l rs d rs' Q h k => ?_⟩)
  · obtain ⟨p, e, _, r, _, rfl, rfl, ⟨s, now, rfl, rfl, rfl⟩, rfl⟩ := h
    rfl
  · obtain ⟨p, e, _, r, _, rfl, rfl, ⟨s, now, rfl, rfl, rfl⟩, rfl⟩ := h
    have EF := EFT T
    refine Lg.g_when (Lg.tst (Lg.eqSt (Lg.r_state EF (Lg.var (n := 0) rfl) .here) (Lg.cSt .synCome))) (fun h1 => ?_) (fun h1 => ?_)
    · rw [show E.answer_comes e s now = _ from (if_pos h1)] at k; exact Lg.g_ret (Lg.callE (Lg.cons_ (Lg.var (n := 0) rfl) (Lg.cons_ (Lg.var (n := 1) rfl) Lg.nil_)) .here ⟨_, rfl, rfl, rfl⟩) rfl k
    · refine Lg.g_asg (ii := 3) (Lg.ixT (n := 3) (Lg.var (n := 1) rfl) Lg.cInt rfl) ?_
      refine Lg.g_when (Lg.tstB (Lg.c_past (Lg.cons_ (Lg.var (n := 3) rfl) (Lg.cons_ (Lg.r_nxt EF (Lg.var (n := 0) rfl) .here) Lg.nil_)))) (fun h2 => ?_) (fun h2 => ?_)
      · refine Lg.w_owes_answer EF Lg.cBl (Lg.var (n := 0) rfl) .here ?_
        rw [show E.answer_comes e s now = _ from ((if_neg (M.fne h1)).trans (if_pos h2))] at k; exact Lg.g_ret Lg.cBl rfl k
      · refine Lg.g_asg (ii := 4) (Lg.c_past (Lg.cons_ (Lg.var (n := 3) rfl) (Lg.cons_ (Lg.r_una EF (Lg.var (n := 0) rfl) .here) Lg.nil_))) ?_
        refine Lg.g_when (Lg.truB (Lg.var (n := 4) rfl)) (fun h3 => ?_) (fun h3 => ?_)
        · refine Lg.w_out EF (Lg.slLi (Lg.r_out EF (Lg.var (n := 0) rfl) .here) (Lg.oYes (Lg.c_offset (Lg.cons_ (Lg.var (n := 3) rfl) (Lg.cons_ (Lg.r_una EF (Lg.var (n := 0) rfl) .here) Lg.nil_)))) Lg.oNo) (Lg.var (n := 0) rfl) .here ?_
          refine Lg.w_una EF (Lg.var (n := 3) rfl) (Lg.var (n := 0) rfl) .here ?_
          refine Lg.g_when1 (Lg.tst (Lg.iB (Lg.callE (Lg.cons_ (Lg.var (n := 0) rfl) Lg.nil_) .here ⟨rfl, rfl, rfl⟩) Lg.cInt)) (fun h4 => ?_) (fun h4 => ?_)
          · refine Lg.g_drop1 (Lg.callE (Lg.cons_ (Lg.var (n := 0) rfl) (Lg.cons_ (Lg.var (n := 2) rfl) Lg.nil_)) .here ⟨_, rfl, rfl, rfl⟩) ?_
            refine Lg.g_next ?_
            refine Lg.g_when (Lg.tNot_ (Lg.tstB (Lg.c_past (Lg.cons_ (Lg.r_una EF (Lg.var (n := 0) rfl) .here) (Lg.cons_ (Lg.var (n := 3) rfl) Lg.nil_))))) (fun h5 => ?_) (fun h5 => ?_)
            · refine Lg.g_drop1 (Lg.callE (Lg.cons_ (Lg.var (n := 0) rfl) (Lg.cons_ (Lg.var (n := 1) rfl) (Lg.cons_ (Lg.var (n := 4) rfl) Lg.nil_))) .here ⟨_, _, rfl, rfl, rfl⟩) ?_
              refine Lg.g_next ?_
              refine Lg.g_when (Lg.tAnd_ (Lg.truB (Lg.r_fin_gone EF (Lg.var (n := 0) rfl) .here)) (fun hc1 => (Lg.tst (Lg.eqI (Lg.r_una EF (Lg.var (n := 0) rfl) .here) (Lg.r_nxt EF (Lg.var (n := 0) rfl) .here))))) (fun h6 => ?_) (fun h6 => ?_)
              · refine Lg.g_drop1 (Lg.callE (Lg.cons_ (Lg.var (n := 0) rfl) (Lg.cons_ (Lg.var (n := 2) rfl) Lg.nil_)) .here ⟨_, rfl, rfl, rfl⟩) ?_
                refine Lg.g_next ?_
                rw [show E.answer_comes e s now = _ from ((if_neg (M.fne h1)).trans ((if_neg (M.fne h2)).trans ((if_pos h3).trans ((if_pos h4).trans ((if_pos h5).trans (if_pos h6))))))] at k; exact Lg.g_ret (Lg.neSt (Lg.r_state EF (Lg.var (n := 0) rfl) .here) (Lg.cSt .closed)) rfl k
              · rw [show E.answer_comes e s now = _ from ((if_neg (M.fne h1)).trans ((if_neg (M.fne h2)).trans ((if_pos h3).trans ((if_pos h4).trans ((if_pos h5).trans (if_neg (M.fne h6)))))))] at k; exact Lg.g_ret (Lg.neSt (Lg.r_state EF (Lg.var (n := 0) rfl) .here) (Lg.cSt .closed)) rfl k
            · refine Lg.g_when (Lg.tAnd_ (Lg.truB (Lg.r_fin_gone EF (Lg.var (n := 0) rfl) .here)) (fun hc1 => (Lg.tst (Lg.eqI (Lg.r_una EF (Lg.var (n := 0) rfl) .here) (Lg.r_nxt EF (Lg.var (n := 0) rfl) .here))))) (fun h6 => ?_) (fun h6 => ?_)
              · refine Lg.g_drop1 (Lg.callE (Lg.cons_ (Lg.var (n := 0) rfl) (Lg.cons_ (Lg.var (n := 2) rfl) Lg.nil_)) .here ⟨_, rfl, rfl, rfl⟩) ?_
                refine Lg.g_next ?_
                rw [show E.answer_comes e s now = _ from ((if_neg (M.fne h1)).trans ((if_neg (M.fne h2)).trans ((if_pos h3).trans ((if_pos h4).trans ((if_neg (M.fne h5)).trans (if_pos h6))))))] at k; exact Lg.g_ret (Lg.neSt (Lg.r_state EF (Lg.var (n := 0) rfl) .here) (Lg.cSt .closed)) rfl k
              · rw [show E.answer_comes e s now = _ from ((if_neg (M.fne h1)).trans ((if_neg (M.fne h2)).trans ((if_pos h3).trans ((if_pos h4).trans ((if_neg (M.fne h5)).trans (if_neg (M.fne h6)))))))] at k; exact Lg.g_ret (Lg.neSt (Lg.r_state EF (Lg.var (n := 0) rfl) .here) (Lg.cSt .closed)) rfl k
          · refine Lg.g_next ?_
            refine Lg.g_when (Lg.tNot_ (Lg.tstB (Lg.c_past (Lg.cons_ (Lg.r_una EF (Lg.var (n := 0) rfl) .here) (Lg.cons_ (Lg.var (n := 3) rfl) Lg.nil_))))) (fun h5 => ?_) (fun h5 => ?_)
            · refine Lg.g_drop1 (Lg.callE (Lg.cons_ (Lg.var (n := 0) rfl) (Lg.cons_ (Lg.var (n := 1) rfl) (Lg.cons_ (Lg.var (n := 4) rfl) Lg.nil_))) .here ⟨_, _, rfl, rfl, rfl⟩) ?_
              refine Lg.g_next ?_
              refine Lg.g_when (Lg.tAnd_ (Lg.truB (Lg.r_fin_gone EF (Lg.var (n := 0) rfl) .here)) (fun hc1 => (Lg.tst (Lg.eqI (Lg.r_una EF (Lg.var (n := 0) rfl) .here) (Lg.r_nxt EF (Lg.var (n := 0) rfl) .here))))) (fun h6 => ?_) (fun h6 => ?_)
              · refine Lg.g_drop1 (Lg.callE (Lg.cons_ (Lg.var (n := 0) rfl) (Lg.cons_ (Lg.var (n := 2) rfl) Lg.nil_)) .here ⟨_, rfl, rfl, rfl⟩) ?_
                refine Lg.g_next ?_
                rw [show E.answer_comes e s now = _ from ((if_neg (M.fne h1)).trans ((if_neg (M.fne h2)).trans ((if_pos h3).trans ((if_neg (M.fne h4)).trans ((if_pos h5).trans (if_pos h6))))))] at k; exact Lg.g_ret (Lg.neSt (Lg.r_state EF (Lg.var (n := 0) rfl) .here) (Lg.cSt .closed)) rfl k
              · rw [show E.answer_comes e s now = _ from ((if_neg (M.fne h1)).trans ((if_neg (M.fne h2)).trans ((if_pos h3).trans ((if_neg (M.fne h4)).trans ((if_pos h5).trans (if_neg (M.fne h6)))))))] at k; exact Lg.g_ret (Lg.neSt (Lg.r_state EF (Lg.var (n := 0) rfl) .here) (Lg.cSt .closed)) rfl k
            · refine Lg.g_when (Lg.tAnd_ (Lg.truB (Lg.r_fin_gone EF (Lg.var (n := 0) rfl) .here)) (fun hc1 => (Lg.tst (Lg.eqI (Lg.r_una EF (Lg.var (n := 0) rfl) .here) (Lg.r_nxt EF (Lg.var (n := 0) rfl) .here))))) (fun h6 => ?_) (fun h6 => ?_)
              · refine Lg.g_drop1 (Lg.callE (Lg.cons_ (Lg.var (n := 0) rfl) (Lg.cons_ (Lg.var (n := 2) rfl) Lg.nil_)) .here ⟨_, rfl, rfl, rfl⟩) ?_
                refine Lg.g_next ?_
                rw [show E.answer_comes e s now = _ from ((if_neg (M.fne h1)).trans ((if_neg (M.fne h2)).trans ((if_pos h3).trans ((if_neg (M.fne h4)).trans ((if_neg (M.fne h5)).trans (if_pos h6))))))] at k; exact Lg.g_ret (Lg.neSt (Lg.r_state EF (Lg.var (n := 0) rfl) .here) (Lg.cSt .closed)) rfl k
              · rw [show E.answer_comes e s now = _ from ((if_neg (M.fne h1)).trans ((if_neg (M.fne h2)).trans ((if_pos h3).trans ((if_neg (M.fne h4)).trans ((if_neg (M.fne h5)).trans (if_neg (M.fne h6)))))))] at k; exact Lg.g_ret (Lg.neSt (Lg.r_state EF (Lg.var (n := 0) rfl) .here) (Lg.cSt .closed)) rfl k
        · refine Lg.g_when (Lg.tNot_ (Lg.tstB (Lg.c_past (Lg.cons_ (Lg.r_una EF (Lg.var (n := 0) rfl) .here) (Lg.cons_ (Lg.var (n := 3) rfl) Lg.nil_))))) (fun h4 => ?_) (fun h4 => ?_)
          · refine Lg.g_drop1 (Lg.callE (Lg.cons_ (Lg.var (n := 0) rfl) (Lg.cons_ (Lg.var (n := 1) rfl) (Lg.cons_ (Lg.var (n := 4) rfl) Lg.nil_))) .here ⟨_, _, rfl, rfl, rfl⟩) ?_
            refine Lg.g_next ?_
            refine Lg.g_when (Lg.tAnd_ (Lg.truB (Lg.r_fin_gone EF (Lg.var (n := 0) rfl) .here)) (fun hc1 => (Lg.tst (Lg.eqI (Lg.r_una EF (Lg.var (n := 0) rfl) .here) (Lg.r_nxt EF (Lg.var (n := 0) rfl) .here))))) (fun h5 => ?_) (fun h5 => ?_)
            · refine Lg.g_drop1 (Lg.callE (Lg.cons_ (Lg.var (n := 0) rfl) (Lg.cons_ (Lg.var (n := 2) rfl) Lg.nil_)) .here ⟨_, rfl, rfl, rfl⟩) ?_
              refine Lg.g_next ?_
              rw [show E.answer_comes e s now = _ from ((if_neg (M.fne h1)).trans ((if_neg (M.fne h2)).trans ((if_neg (M.fne h3)).trans ((if_pos h4).trans (if_pos h5)))))] at k; exact Lg.g_ret (Lg.neSt (Lg.r_state EF (Lg.var (n := 0) rfl) .here) (Lg.cSt .closed)) rfl k
            · rw [show E.answer_comes e s now = _ from ((if_neg (M.fne h1)).trans ((if_neg (M.fne h2)).trans ((if_neg (M.fne h3)).trans ((if_pos h4).trans (if_neg (M.fne h5))))))] at k; exact Lg.g_ret (Lg.neSt (Lg.r_state EF (Lg.var (n := 0) rfl) .here) (Lg.cSt .closed)) rfl k
          · refine Lg.g_when (Lg.tAnd_ (Lg.truB (Lg.r_fin_gone EF (Lg.var (n := 0) rfl) .here)) (fun hc1 => (Lg.tst (Lg.eqI (Lg.r_una EF (Lg.var (n := 0) rfl) .here) (Lg.r_nxt EF (Lg.var (n := 0) rfl) .here))))) (fun h5 => ?_) (fun h5 => ?_)
            · refine Lg.g_drop1 (Lg.callE (Lg.cons_ (Lg.var (n := 0) rfl) (Lg.cons_ (Lg.var (n := 2) rfl) Lg.nil_)) .here ⟨_, rfl, rfl, rfl⟩) ?_
              refine Lg.g_next ?_
              rw [show E.answer_comes e s now = _ from ((if_neg (M.fne h1)).trans ((if_neg (M.fne h2)).trans ((if_neg (M.fne h3)).trans ((if_neg (M.fne h4)).trans (if_pos h5)))))] at k; exact Lg.g_ret (Lg.neSt (Lg.r_state EF (Lg.var (n := 0) rfl) .here) (Lg.cSt .closed)) rfl k
            · rw [show E.answer_comes e s now = _ from ((if_neg (M.fne h1)).trans ((if_neg (M.fne h2)).trans ((if_neg (M.fne h3)).trans ((if_neg (M.fne h4)).trans (if_neg (M.fne h5))))))] at k; exact Lg.g_ret (Lg.neSt (Lg.r_state EF (Lg.var (n := 0) rfl) .here) (Lg.cSt .closed)) rfl k
theorem sc_opened : FnScope ["ours", "theirs", "first", "active"] ["ours", "theirs", "first", "active"] (defScope s_opened) := ⟨rfl, rfl, rfl, by decide +kernel, rfl, by decide +kernel, by decide +kernel⟩
theorem d_opened (T : Tx fa fn ex w K mg) : Df P w K mg base CX0 5 "opened" ["ours", "theirs", "first", "active"] (Lg.SpE K (Lg.e_opened K)) := by
  refine Lg.df_mkE T 51 75 rfl rfl sc_opened (fun kV doc pm an cdv ct us hl => match us, hl with | [_, _, _, _], _ => rfl) (fun l rs ff gg h => ?_) (fun f cdv A outer s H E0 hr => ⟨_, PSs.nox (pss_one (ps_ret (C8.pe_mk (m_End_init T) hr (by decide) rfl (pa_cons (pv 0) (pa_cons (pv 1) (pa_cons (pv 2) (pa_cons (pv 3) pa_nil))))))), fun F l rs ff gg Q h k => ?_⟩)
  · obtain ⟨a, b, c, act, rfl, rfl, rfl⟩ := h
    rfl
  · obtain ⟨a, b, c, act, rfl, rfl, rfl⟩ := h
    exact Lg.g_retX (Lg.mkX (Lg.cons_ (Lg.var (n := 0) rfl) (Lg.cons_ (Lg.var (n := 1) rfl) (Lg.cons_ (Lg.var (n := 2) rfl) (Lg.cons_ (Lg.var (n := 3) rfl) Lg.nil_)))) (fun x => ⟨x, _, _, _, _, _, rfl, rfl, rfl, rfl⟩)) rfl k
theorem sc_again : FnScope ["end", "now", "many"] ["end", "now"] (defScope s_again) := ⟨rfl, rfl, rfl, by decide +kernel, rfl, by decide +kernel, by decide +kernel⟩
theorem d_again (T : Tx fa fn ex w K mg) : Df P w K mg base CX0 5 "again" ["end", "now"] (Lg.SpG K (Lg.RE K Lg.R_again)) := by
  refine Lg.df_mkG T 52 78 rfl rfl sc_again (fun kV doc pm an cdv ct us hl => match us, hl with | [_, _], _ => rfl) (fun l rs d rs' h => ?_) (fun f cdv A outer s H E0 hr => ⟨_, PSs.nox (pss_cons (ps_if (pt_cmpR op_eq (pe_fld (pv 0) rfl) (pe_gi (T.int 76)) (nomark _)) (pss_cons (ps_expr (pe_df (d_shut T) (hr.mono (by decide)) (pa_cons (pv 0) (pa_cons pe_str pa_nil))))
      (pss_one (ps_ret (pe_lst pa_nil)))) pss_nil)
      (pss_cons (ps_fld (pv 0) (pe_op op_add (pe_fld (pv 0) rfl) pe_int) rfl)
      (pss_cons (ps_fld (pv 0) (pe_callB (call_min2 rfl) (by rfl) (T.free 42) (by decide +kernel) (pa_cons (pe_op op_mul pe_int (pe_fld (pv 0) rfl)) (pa_cons (pe_gi (T.int 77)) pa_nil))) rfl)
      (pss_cons (ps_fld (pv 0) (pv 1) rfl)
      (pss_cons (ps_if (pt_not (pt_truth (pe_fld (pv 0) rfl) (fun _ => rfl))) (pss_cons (ps_fld (pv 0) pe_bl rfl)
      (pss_one (ps_ret (pe_df (d_syn_made T) (hr.mono (by decide)) (pa_cons (pv 0) pa_nil))))) pss_nil)
      (pss_cons (ps_set (i := 2) sc_again.nd rfl (Or.inl rfl) (pe_op op_sub (pe_callB call_len_seq (by rfl) (T.free 10) PySem.boot_len (pa_cons (pe_fld (pv 0) rfl) pa_nil)) (pe_df (d_unsent T) (hr.mono (by decide)) (pa_cons (pv 0) pa_nil))))
      (pss_cons (ps_if (pt_cmpR op_gt (pv 2) pe_int (nomark _)) (pss_one (ps_ret (pe_df (d_made T) (hr.mono (by decide)) (pa_cons (pv 0) (pa_cons (pe_fld (pv 0) rfl) (pa_cons pe_int (pa_cons (pe_slice sl_list (pe_fld (pv 0) rfl) po_none (po_some (pe_callB (call_min3Nu rfl) (by rfl) (T.free 42) (by decide +kernel) (pa_cons (pv 2) (pa_cons (pe_fld (pv 0) rfl) (pa_cons (pe_gi (T.int 50)) pa_nil)))))) pa_nil))))))) pss_nil)
      (pss_one (ps_ret (pe_df (d_made T) (hr.mono (by decide)) (pa_cons (pv 0) (pa_cons (pe_fld (pv 0) rfl) (pa_cons (pe_gi (T.int 28)) (pa_cons (pe_lst pa_nil) pa_nil)))))))))))))), fun F l rs d rs' Q h k => ?_⟩)
  · obtain ⟨p, e, _, r, _, rfl, rfl, ⟨now, rfl, hz, rfl, rfl⟩, rfl⟩ := h
    rfl
  · obtain ⟨p, e, _, r, _, rfl, rfl, ⟨now, rfl, hz, rfl, rfl⟩, rfl⟩ := h
    have EF := EFT T
    refine Lg.g_when (Lg.tst (Lg.eqI (Lg.r_tries EF (Lg.var (n := 0) rfl) .here) Lg.cInt)) (fun h1 => ?_) (fun h1 => ?_)
    · refine Lg.g_drop (Lg.callE (Lg.cons_ (Lg.var (n := 0) rfl) (Lg.cons_ (Lg.cEt .time) Lg.nil_)) .here ⟨_, rfl, rfl, rfl⟩) ?_
      rw [show E.again e now = _ from (if_pos h1)] at k; exact Lg.g_ret (Lg.listI Lg.nilI (sz rfl)) rfl k
    · refine Lg.w_tries EF (Lg.iI (Lg.r_tries EF (Lg.var (n := 0) rfl) .here) Lg.cInt) (Lg.var (n := 0) rfl) .here ?_
      refine Lg.w_wait EF (Lg.min2 (Lg.iC (.inl ⟨by decide, by decide⟩) Lg.cInt (Lg.r_wait EF (Lg.var (n := 0) rfl) .here)) Lg.cInt) (Lg.var (n := 0) rfl) .here ?_
      refine Lg.w_since EF (Lg.var (n := 1) rfl) (Lg.var (n := 0) rfl) .here ?_
      refine Lg.g_when (Lg.tNot_ (Lg.truB (Lg.r_synced EF (Lg.var (n := 0) rfl) .here))) (fun h2 => ?_) (fun h2 => ?_)
      · refine Lg.w_owes_syn EF Lg.cBl (Lg.var (n := 0) rfl) .here ?_
        rw [show E.again e now = _ from ((if_neg (M.fne h1)).trans (if_pos h2))] at k; exact Lg.g_ret (Lg.callE (Lg.cons_ (Lg.var (n := 0) rfl) Lg.nil_) .here ⟨rfl, rfl, rfl⟩) rfl k
      · refine Lg.g_asg (ii := 2) (Lg.iI (Lg.lenLi (Lg.r_out EF (Lg.var (n := 0) rfl) .here)) (Lg.callE (Lg.cons_ (Lg.var (n := 0) rfl) Lg.nil_) .here ⟨rfl, rfl, rfl⟩)) ?_
        refine Lg.g_when (Lg.tst (Lg.iB (Lg.var (n := 2) rfl) Lg.cInt)) (fun h3 => ?_) (fun h3 => ?_)
        · rw [show E.again e now = _ from ((if_neg (M.fne h1)).trans ((if_neg (M.fne h2)).trans (if_pos h3)))] at k; exact Lg.g_ret (Lg.callE (Lg.cons_ (Lg.var (n := 0) rfl) (Lg.cons_ (Lg.r_una EF (Lg.var (n := 0) rfl) .here) (Lg.cons_ Lg.cInt (Lg.cons_ (Lg.slLi (Lg.r_out EF (Lg.var (n := 0) rfl) .here) Lg.oNo (Lg.oYes (Lg.min3 (Lg.var (n := 2) rfl) (Lg.r_most EF (Lg.var (n := 0) rfl) .here) Lg.cInt))) Lg.nil_)))) .here ⟨_, _, _, rfl, (by first | exact Nat.zero_le _ | exact (Nat.le_trans (M.sl_len _ _ _) hz.out)), rfl, rfl⟩) rfl k
        · rw [show E.again e now = _ from ((if_neg (M.fne h1)).trans ((if_neg (M.fne h2)).trans (if_neg (M.fne h3))))] at k; exact Lg.g_ret (Lg.callE (Lg.cons_ (Lg.var (n := 0) rfl) (Lg.cons_ (Lg.r_una EF (Lg.var (n := 0) rfl) .here) (Lg.cons_ Lg.cInt (Lg.cons_ (Lg.listI Lg.nilI (sz rfl)) Lg.nil_)))) .here ⟨_, _, _, rfl, (by first | exact Nat.zero_le _ | exact (Nat.le_trans (M.sl_len _ _ _) hz.out)), rfl, rfl⟩) rfl k
theorem sc_syn_goes : FnScope ["end", "now"] ["end", "now"] (defScope s_syn_goes) := ⟨rfl, rfl, rfl, by decide +kernel, rfl, by decide +kernel, by decide +kernel⟩
theorem d_syn_goes (T : Tx fa fn ex w K mg) : Df P w K mg base CX0 5 "syn_goes" ["end", "now"] (Lg.SpG K (Lg.RE K Lg.R_syn_goes)) := by
  refine Lg.df_mkG T 53 79 rfl rfl sc_syn_goes (fun kV doc pm an cdv ct us hl => match us, hl with | [_, _], _ => rfl) (fun l rs d rs' h => ?_) (fun f cdv A outer s H E0 hr => ⟨_, PSs.nox (pss_cons (ps_if (pt_cmpR op_eq (pe_fld (pv 0) rfl) (pe_fld (pv 0) rfl) (nomark _)) (pss_one (ps_expr (pe_df (d_start T) (hr.mono (by decide)) (pa_cons (pv 0) (pa_cons (pv 1) pa_nil))))) pss_nil)
      (pss_cons (ps_fld (pv 0) (pe_df (d_plus T) (hr.mono (by decide)) (pa_cons (pe_fld (pv 0) rfl) (pa_cons pe_int pa_nil))) rfl)
      (pss_cons (ps_fld (pv 0) pe_bl rfl)
      (pss_one (ps_ret (pe_df (d_syn_made T) (hr.mono (by decide)) (pa_cons (pv 0) pa_nil))))))), fun F l rs d rs' Q h k => ?_⟩)
  · obtain ⟨p, e, _, r, _, rfl, rfl, ⟨now, rfl, rfl, rfl⟩, rfl⟩ := h
    rfl
  · obtain ⟨p, e, _, r, _, rfl, rfl, ⟨now, rfl, rfl, rfl⟩, rfl⟩ := h
    have EF := EFT T
    refine Lg.g_when (Lg.tst (Lg.eqI (Lg.r_nxt EF (Lg.var (n := 0) rfl) .here) (Lg.r_first EF (Lg.var (n := 0) rfl) .here))) (fun h1 => ?_) (fun h1 => ?_)
    · refine Lg.g_drop1 (Lg.callE (Lg.cons_ (Lg.var (n := 0) rfl) (Lg.cons_ (Lg.var (n := 1) rfl) Lg.nil_)) .here ⟨_, rfl, rfl, rfl⟩) ?_
      refine Lg.g_next ?_
      refine Lg.w_nxt EF (Lg.c_plus (Lg.cons_ (Lg.r_first EF (Lg.var (n := 0) rfl) .here) (Lg.cons_ Lg.cInt Lg.nil_))) (Lg.var (n := 0) rfl) .here ?_
      refine Lg.w_owes_syn EF Lg.cBl (Lg.var (n := 0) rfl) .here ?_
      rw [show E.syn_goes e now = _ from (if_pos h1)] at k; exact Lg.g_ret (Lg.callE (Lg.cons_ (Lg.var (n := 0) rfl) Lg.nil_) .here ⟨rfl, rfl, rfl⟩) rfl k
    · refine Lg.w_nxt EF (Lg.c_plus (Lg.cons_ (Lg.r_first EF (Lg.var (n := 0) rfl) .here) (Lg.cons_ Lg.cInt Lg.nil_))) (Lg.var (n := 0) rfl) .here ?_
      refine Lg.w_owes_syn EF Lg.cBl (Lg.var (n := 0) rfl) .here ?_
      rw [show E.syn_goes e now = _ from (if_neg (M.fne h1))] at k; exact Lg.g_ret (Lg.callE (Lg.cons_ (Lg.var (n := 0) rfl) Lg.nil_) .here ⟨rfl, rfl, rfl⟩) rfl k
theorem sc_data_goes : FnScope ["end", "now", "many", "at", "number", "data", "flags"] ["end", "now", "many"] (defScope s_data_goes) := ⟨rfl, rfl, rfl, by decide +kernel, rfl, by decide +kernel, by decide +kernel⟩
theorem d_data_goes (T : Tx fa fn ex w K mg) : Df P w K mg base CX0 5 "data_goes" ["end", "now", "many"] (Lg.SpG K (Lg.RE K Lg.R_data_goes)) := by
  refine Lg.df_mkG T 54 81 rfl rfl sc_data_goes (fun kV doc pm an cdv ct us hl => match us, hl with | [_, _, _], _ => rfl) (fun l rs d rs' h => ?_) (fun f cdv A outer s H E0 hr => ⟨_, PSs.nox (pss_cons (ps_set (i := 3) sc_data_goes.nd rfl (Or.inl rfl) (pe_op op_sub (pe_callB call_len_seq (by rfl) (T.free 10) PySem.boot_len (pa_cons (pe_fld (pv 0) rfl) pa_nil)) (pe_df (d_unsent T) (hr.mono (by decide)) (pa_cons (pv 0) pa_nil))))
      (pss_cons (ps_set (i := 4) sc_data_goes.nd rfl (Or.inl rfl) (pe_fld (pv 0) rfl))
      (pss_cons (ps_set (i := 5) sc_data_goes.nd rfl (Or.inl rfl) (pe_slice sl_list (pe_fld (pv 0) rfl) (po_some (pv 3)) (po_some (pe_op op_add (pv 3) (pv 2)))))
      (pss_cons (ps_set (i := 6) sc_data_goes.nd rfl (Or.inl rfl) (pe_ifExp (pt_cmpR op_eq (pe_op op_add (pv 3) (pv 2)) (pe_callB call_len_seq (by rfl) (T.free 10) PySem.boot_len (pa_cons (pe_fld (pv 0) rfl) pa_nil)) (nomark _)) (pe_gi (T.int 80)) pe_int))
      (pss_cons (ps_expr (pe_df (d_gone T) (hr.mono (by decide)) (pa_cons (pv 0) (pa_cons (pv 1) (pa_cons (pv 2) pa_nil)))))
      (pss_one (ps_ret (pe_df (d_made T) (hr.mono (by decide)) (pa_cons (pv 0) (pa_cons (pv 4) (pa_cons (pv 6) (pa_cons (pv 5) pa_nil)))))))))))), fun F l rs d rs' Q h k => ?_⟩)
  · obtain ⟨p, e, _, r, _, rfl, rfl, ⟨now, many, rfl, hz, rfl, rfl⟩, rfl⟩ := h
    rfl
  · obtain ⟨p, e, _, r, _, rfl, rfl, ⟨now, many, rfl, hz, rfl, rfl⟩, rfl⟩ := h
    have EF := EFT T
    refine Lg.g_asg (ii := 3) (Lg.iI (Lg.lenLi (Lg.r_out EF (Lg.var (n := 0) rfl) .here)) (Lg.callE (Lg.cons_ (Lg.var (n := 0) rfl) Lg.nil_) .here ⟨rfl, rfl, rfl⟩)) ?_
    refine Lg.g_asg (ii := 4) (Lg.r_nxt EF (Lg.var (n := 0) rfl) .here) ?_
    refine Lg.g_asg (ii := 5) (Lg.slLi (Lg.r_out EF (Lg.var (n := 0) rfl) .here) (Lg.oYes (Lg.var (n := 3) rfl)) (Lg.oYes (Lg.iI (Lg.var (n := 3) rfl) (Lg.var (n := 2) rfl)))) ?_
    refine Lg.g_asg (ii := 6) (Lg.ifeI (Lg.tst (Lg.eqI (Lg.iI (Lg.var (n := 3) rfl) (Lg.var (n := 2) rfl)) (Lg.lenLi (Lg.r_out EF (Lg.var (n := 0) rfl) .here)))) (fun hc => Lg.cInt) (fun hc => Lg.cInt)) ?_
    refine Lg.g_drop (Lg.callE (Lg.cons_ (Lg.var (n := 0) rfl) (Lg.cons_ (Lg.var (n := 1) rfl) (Lg.cons_ (Lg.var (n := 2) rfl) Lg.nil_))) .here ⟨_, _, rfl, rfl, rfl⟩) ?_
    exact Lg.g_ret (Lg.callE (Lg.cons_ (Lg.var (n := 0) rfl) (Lg.cons_ (Lg.var (n := 4) rfl) (Lg.cons_ (Lg.var (n := 6) rfl) (Lg.cons_ (Lg.var (n := 5) rfl) Lg.nil_)))) .here ⟨_, _, _, rfl, (Nat.le_trans (M.sl_len _ _ _) hz.out), rfl, rfl⟩) rfl k
theorem sc_fin_goes : FnScope ["end", "now", "number"] ["end", "now"] (defScope s_fin_goes) := ⟨rfl, rfl, rfl, by decide +kernel, rfl, by decide +kernel, by decide +kernel⟩
theorem d_fin_goes (T : Tx fa fn ex w K mg) : Df P w K mg base CX0 5 "fin_goes" ["end", "now"] (Lg.SpG K (Lg.RE K Lg.R_fin_goes)) := by
  refine Lg.df_mkG T 55 82 rfl rfl sc_fin_goes (fun kV doc pm an cdv ct us hl => match us, hl with | [_, _], _ => rfl) (fun l rs d rs' h => ?_) (fun f cdv A outer s H E0 hr => ⟨_, PSs.nox (pss_cons (ps_set (i := 2) sc_fin_goes.nd rfl (Or.inl rfl) (pe_fld (pv 0) rfl))
      (pss_cons (ps_fld (pv 0) pe_bl rfl)
      (pss_cons (ps_expr (pe_df (d_gone T) (hr.mono (by decide)) (pa_cons (pv 0) (pa_cons (pv 1) (pa_cons pe_int pa_nil)))))
      (pss_one (ps_ret (pe_df (d_made T) (hr.mono (by decide)) (pa_cons (pv 0) (pa_cons (pv 2) (pa_cons (pe_gi (T.int 28)) (pa_cons (pe_lst pa_nil) pa_nil)))))))))), fun F l rs d rs' Q h k => ?_⟩)
  · obtain ⟨p, e, _, r, _, rfl, rfl, ⟨now, rfl, rfl, rfl⟩, rfl⟩ := h
    rfl
  · obtain ⟨p, e, _, r, _, rfl, rfl, ⟨now, rfl, rfl, rfl⟩, rfl⟩ := h
    have EF := EFT T
    refine Lg.g_asg (ii := 2) (Lg.r_nxt EF (Lg.var (n := 0) rfl) .here) ?_
    refine Lg.w_fin_gone EF Lg.cBl (Lg.var (n := 0) rfl) .here ?_
    refine Lg.g_drop (Lg.callE (Lg.cons_ (Lg.var (n := 0) rfl) (Lg.cons_ (Lg.var (n := 1) rfl) (Lg.cons_ Lg.cInt Lg.nil_))) .here ⟨_, _, rfl, rfl, rfl⟩) ?_
    exact Lg.g_ret (Lg.callE (Lg.cons_ (Lg.var (n := 0) rfl) (Lg.cons_ (Lg.var (n := 2) rfl) (Lg.cons_ Lg.cInt (Lg.cons_ (Lg.listI Lg.nilI (sz rfl)) Lg.nil_)))) .here ⟨_, _, _, rfl, Nat.zero_le _, rfl, rfl⟩) rfl k
theorem sc_has_more : FnScope ["end"] ["end"] (defScope s_has_more) := ⟨rfl, rfl, rfl, by decide +kernel, rfl, by decide +kernel, by decide +kernel⟩
theorem d_has_more (T : Tx fa fn ex w K mg) : Df P w K mg base CX0 5 "has_more" ["end"] (Lg.SpG K (Lg.RE K Lg.R_has_more)) := by
  refine Lg.df_mkG T 56 85 rfl rfl sc_has_more (fun kV doc pm an cdv ct us hl => match us, hl with | [_], _ => rfl) (fun l rs d rs' h => ?_) (fun f cdv A outer s H E0 hr => ⟨_, PSs.nox (pss_cons (ps_if (PW.pt (pw_and (pt_cmpR op_in_seq (pe_fld (pv 0) rfl) (pe_gr (T.glo 83)) (by rfl)) (pw_and1 (pt_cmpR op_gt (pe_df (d_unsent T) (hr.mono (by decide)) (pa_cons (pv 0) pa_nil)) pe_int (nomark _))))) (pss_one (ps_ret pe_bl)) pss_nil)
      (pss_one (ps_ret (pe_and (pe_cmpR op_in_seq (pe_fld (pv 0) rfl) (pe_gr (T.glo 84)) (by rfl)) (pe_one (pe_not (pe_fld (pv 0) rfl))))))), fun F l rs d rs' Q h k => ?_⟩)
  · obtain ⟨p, e0, _, r, e, rfl, rfl, ⟨rfl, rfl, rfl⟩, rfl⟩ := h
    rfl
  · obtain ⟨p, e0, _, r, e, rfl, rfl, ⟨rfl, rfl, rfl⟩, rfl⟩ := h
    have EF := EFT T
    refine Lg.g_when (Lg.tAnd_ (Lg.tst (Lg.inSt [.opn, .waitOne, .closeWait, .closing, .lastAck] (Lg.r_state EF (Lg.var (n := 0) rfl) .here) (Lg.gTup (GT_GIVING T)))) (fun hc1 => (Lg.tst (Lg.iB (Lg.callE (Lg.cons_ (Lg.var (n := 0) rfl) Lg.nil_) .here ⟨rfl, rfl, rfl⟩) Lg.cInt)))) (fun h1 => ?_) (fun h1 => ?_)
    · exact Lg.g_ret (Lg.is_ Lg.cBl (congrArg Lg.Da.bl (show E.has_more e = _ from (if_pos h1)).symm)) rfl k
    · exact Lg.g_ret (Lg.is_ (Lg.andV (Lg.inSt [.waitOne, .closing, .lastAck] (Lg.r_state EF (Lg.var (n := 0) rfl) .here) (Lg.gTup (GT_ENDING T))) (fun hc1 => (Lg.notV (Lg.r_fin_gone EF (Lg.var (n := 0) rfl) .here)))) (congrArg Lg.Da.bl (show E.has_more e = _ from (if_neg (M.fne h1))).symm)) rfl k
theorem sc_answer_goes : FnScope ["end"] ["end"] (defScope s_answer_goes) := ⟨rfl, rfl, rfl, by decide +kernel, rfl, by decide +kernel, by decide +kernel⟩
theorem d_answer_goes (T : Tx fa fn ex w K mg) : Df P w K mg base CX0 5 "answer_goes" ["end"] (Lg.SpG K (Lg.RE K Lg.R_answer_goes)) := by
  refine Lg.df_mkG T 57 86 rfl rfl sc_answer_goes (fun kV doc pm an cdv ct us hl => match us, hl with | [_], _ => rfl) (fun l rs d rs' h => ?_) (fun f cdv A outer s H E0 hr => ⟨_, PSs.nox (pss_cons (ps_if (PW.pt (pw_or (pt_not (pt_truth (pe_fld (pv 0) rfl) (fun _ => rfl))) (pw_or (pt_cmpR op_in_seq (pe_fld (pv 0) rfl) (pe_tup (pa_cons (pe_gs (T.str 56)) (pa_cons (pe_gs (T.str 6)) pa_nil))) rfl) (pw_or1 (PW.pt (pw_and (pt_cmpR op_eq (pe_fld (pv 0) rfl) (pe_gs (T.str 22)) (nomark _)) (pw_and1 (pt_cmpR op_eq (pe_fld (pv 0) rfl) (pe_fld (pv 0) rfl) (nomark _))))))))) (pss_one (ps_ret (pe_lst pa_nil))) pss_nil)
      (pss_cons (ps_fld (pv 0) pe_bl rfl)
      (pss_one (ps_ret (pe_df (d_made T) (hr.mono (by decide)) (pa_cons (pv 0) (pa_cons (pe_fld (pv 0) rfl) (pa_cons pe_int (pa_cons (pe_lst pa_nil) pa_nil))))))))), fun F l rs d rs' Q h k => ?_⟩)
  · obtain ⟨p, e, _, r, _, rfl, rfl, ⟨rfl, rfl, rfl⟩, rfl⟩ := h
    rfl
  · obtain ⟨p, e, _, r, _, rfl, rfl, ⟨rfl, rfl, rfl⟩, rfl⟩ := h
    have EF := EFT T
    refine Lg.g_when (Lg.tOr_ (Lg.tNot_ (Lg.truB (Lg.r_owes_answer EF (Lg.var (n := 0) rfl) .here))) (fun hc1 => (Lg.tOr_ (Lg.tst (Lg.inSt [.synSent, .closed] (Lg.r_state EF (Lg.var (n := 0) rfl) .here) (Lg.tup_ (Lg.cons_ (Lg.cSt .synSent) (Lg.cons_ (Lg.cSt .closed) Lg.nil_)) (sz rfl)))) (fun hc2 => (Lg.tAnd_ (Lg.tst (Lg.eqSt (Lg.r_state EF (Lg.var (n := 0) rfl) .here) (Lg.cSt .synCome))) (fun hc3 => (Lg.tst (Lg.eqI (Lg.r_nxt EF (Lg.var (n := 0) rfl) .here) (Lg.r_first EF (Lg.var (n := 0) rfl) .here))))))))) (fun h1 => ?_) (fun h1 => ?_)
    · rw [show E.answer_goes e = _ from (if_pos h1)] at k; exact Lg.g_ret (Lg.listI Lg.nilI (sz rfl)) rfl k
    · refine Lg.w_owes_answer EF Lg.cBl (Lg.var (n := 0) rfl) .here ?_
      rw [show E.answer_goes e = _ from (if_neg (M.fne h1))] at k; exact Lg.g_ret (Lg.callE (Lg.cons_ (Lg.var (n := 0) rfl) (Lg.cons_ (Lg.r_nxt EF (Lg.var (n := 0) rfl) .here) (Lg.cons_ Lg.cInt (Lg.cons_ (Lg.listI Lg.nilI (sz rfl)) Lg.nil_)))) .here ⟨_, _, _, rfl, Nat.zero_le _, rfl, rfl⟩) rfl k
theorem sc_at_others : FnScope ["end", "segment", "now"] ["end", "segment", "now"] (defScope s_at_others) := ⟨rfl, rfl, rfl, by decide +kernel, rfl, by decide +kernel, by decide +kernel⟩
theorem d_at_others (T : Tx fa fn ex w K mg) : Df P w K mg base CX0 6 "at_others" ["end", "segment", "now"] (Lg.SpG K (Lg.RE K Lg.R_at_others)) := by
  refine Lg.df_mkG T 58 88 rfl rfl sc_at_others (fun kV doc pm an cdv ct us hl => match us, hl with | [_, _, _], _ => rfl) (fun l rs d rs' h => ?_) (fun f cdv A outer s H E0 hr => ⟨_, PSs.nox (pss_cons (ps_if (pt_not (pt_val (pe_df (d_fits T) (hr.mono (by decide)) (pa_cons (pv 0) (pa_cons (pv 1) pa_nil))))) (pss_one (ps_ret (pe_df (d_out_of_place T) (hr.mono (by decide)) (pa_cons (pv 0) (pa_cons (pv 1) (pa_cons (pv 2) pa_nil)))))) pss_nil)
      (pss_cons (ps_if (pt_val (pe_df (d_has T) (hr.mono (by decide)) (pa_cons (pv 1) (pa_cons (pe_gi (T.int 31)) pa_nil)))) (pss_one (ps_ret (pe_df (d_reset_comes T) (hr.mono (by decide)) (pa_cons (pv 0) (pa_cons (pv 1) pa_nil))))) pss_nil)
      (pss_cons (ps_if (pt_val (pe_df (d_has T) (hr.mono (by decide)) (pa_cons (pv 1) (pa_cons (pe_gi (T.int 26)) pa_nil)))) (pss_cons (ps_fld (pv 0) pe_bl rfl)
      (pss_one (ps_ret pe_non))) pss_nil)
      (pss_cons (ps_if (PW.pt (pw_and (pt_val (pe_df (d_has T) (hr.mono (by decide)) (pa_cons (pv 1) (pa_cons (pe_gi (T.int 32)) pa_nil)))) (pw_and (pt_val (pe_df (d_answer_comes T) (hr.mono (by decide)) (pa_cons (pv 0) (pa_cons (pv 1) (pa_cons (pv 2) pa_nil))))) (pw_and1 (pt_cmpR op_in_seq (pe_fld (pv 0) rfl) (pe_gr (T.glo 87)) (by rfl)))))) (pss_one (ps_expr (pe_df (d_data_comes T) (hr.mono (by decide)) (pa_cons (pv 0) (pa_cons (pv 1) (pa_cons (pv 2) pa_nil)))))) pss_nil)
      (pss_one (ps_ret pe_non)))))), fun F l rs d rs' Q h k => ?_⟩)
  · obtain ⟨p, e, _, r, _, rfl, rfl, ⟨s, now, rfl, hp, hd, rfl, rfl⟩, rfl⟩ := h
    rfl
  · obtain ⟨p, e, _, r, _, rfl, rfl, ⟨s, now, rfl, hp, hd, rfl, rfl⟩, rfl⟩ := h
    have EF := EFT T
    refine Lg.g_when (Lg.tNot_ (Lg.tstB (Lg.callE (Lg.cons_ (Lg.var (n := 0) rfl) (Lg.cons_ (Lg.var (n := 1) rfl) Lg.nil_)) .here ⟨_, rfl, rfl, rfl⟩))) (fun h1 => ?_) (fun h1 => ?_)
    · rw [show E.at_others e s now = _ from if_pos h1] at k
      exact Lg.g_ret (Lg.callE (Lg.cons_ (Lg.var (n := 0) rfl) (Lg.cons_ (Lg.var (n := 1) rfl) (Lg.cons_ (Lg.var (n := 2) rfl) Lg.nil_))) .here ⟨_, _, rfl, rfl, rfl⟩) rfl k
    refine Lg.g_when (Lg.tstB (Lg.call (Lg.cons_ (Lg.var (n := 1) rfl) (Lg.cons_ Lg.cInt Lg.nil_)) ⟨⟨_, _, rfl, ⟨by decide, by decide⟩, rfl⟩, rfl⟩)) (fun h2 => ?_) (fun h2 => ?_)
    · rw [show E.at_others e s now = _ from (if_neg (M.fne h1)).trans (if_pos h2)] at k
      exact Lg.g_ret (Lg.callE (Lg.cons_ (Lg.var (n := 0) rfl) (Lg.cons_ (Lg.var (n := 1) rfl) Lg.nil_)) .here ⟨_, rfl, rfl, rfl⟩) rfl k
    refine Lg.g_when (Lg.tstB (Lg.call (Lg.cons_ (Lg.var (n := 1) rfl) (Lg.cons_ Lg.cInt Lg.nil_)) ⟨⟨_, _, rfl, ⟨by decide, by decide⟩, rfl⟩, rfl⟩)) (fun h3 => ?_) (fun h3 => ?_)
    · rw [show E.at_others e s now = _ from (if_neg (M.fne h1)).trans ((if_neg (M.fne h2)).trans (if_pos h3))] at k
      refine Lg.w_owes_answer EF Lg.cBl (Lg.var (n := 0) rfl) .here ?_
      exact Lg.g_ret Lg.cNon rfl k
    have pf : E.at_others e s now = _ := (if_neg (M.fne h1)).trans ((if_neg (M.fne h2)).trans (if_neg (M.fne h3)))
    refine Lg.g_ifAnd (Lg.tstB (Lg.call (Lg.cons_ (Lg.var (n := 1) rfl) (Lg.cons_ Lg.cInt Lg.nil_)) ⟨⟨_, _, rfl, ⟨by decide, by decide⟩, rfl⟩, rfl⟩)) (fun h4 => ?_) (fun h4 => Lg.g_next ?_)
    · refine Lg.g_ifAnd1 (Lg.tstB (Lg.callE (Lg.cons_ (Lg.var (n := 0) rfl) (Lg.cons_ (Lg.var (n := 1) rfl) (Lg.cons_ (Lg.var (n := 2) rfl) Lg.nil_))) .here ⟨_, _, rfl, rfl, rfl⟩)) (fun h5 => ?_) (fun h5 => Lg.g_next ?_)
      · refine Lg.g_when1 (Lg.tst (Lg.inSt [.opn, .waitOne, .waitTwo] (Lg.r_state EF (Lg.var (n := 0) rfl) .here) (Lg.gTup (GT_HEARING T)))) (fun h6 => ?_) (fun h6 => Lg.g_next ?_)
        · refine Lg.g_drop1 (Lg.callE (Lg.cons_ (Lg.var (n := 0) rfl) (Lg.cons_ (Lg.var (n := 1) rfl) (Lg.cons_ (Lg.var (n := 2) rfl) Lg.nil_))) .here ⟨_, _, rfl, by rw [M.answer_pile]; exact hp, hd, rfl, rfl⟩) (Lg.g_next ?_)
          rw [pf.trans ((if_pos h4).trans ((if_pos h5).trans (if_pos h6)))] at k
          exact Lg.g_ret Lg.cNon rfl k
        · rw [pf.trans ((if_pos h4).trans ((if_pos h5).trans (if_neg (M.fne h6))))] at k
          exact Lg.g_ret Lg.cNon rfl k
      · rw [pf.trans ((if_pos h4).trans (if_neg (M.fne h5)))] at k
        exact Lg.g_ret Lg.cNon rfl k
    · rw [pf.trans (if_neg (M.fne h4))] at k
      exact Lg.g_ret Lg.cNon rfl k
theorem sc_probe : FnScope ["end", "now", "wait", "tries", "owed", "row"] ["end", "now"] (defScope s_probe) := ⟨rfl, rfl, rfl, by decide +kernel, rfl, by decide +kernel, by decide +kernel⟩
theorem d_probe (T : Tx fa fn ex w K mg) : Df P w K mg base CX0 6 "probe" ["end", "now"] (Lg.SpG K (Lg.RE K Lg.R_probe)) := by
  refine Lg.df_mkG T 59 89 rfl rfl sc_probe (fun kV doc pm an cdv ct us hl => match us, hl with | [_, _], _ => rfl) (fun l rs d rs' h => ?_) (fun f cdv A outer s H E0 hr => ⟨_, PSs.nox (pss_cons (ps_if (PW.pt (pw_or (pt_cmpR op_gt (pe_df (d_outstanding T) (hr.mono (by decide)) (pa_cons (pv 0) pa_nil)) pe_int (nomark _)) (pw_or (pt_cmpR op_gt (pe_fld (pv 0) rfl) pe_int (nomark _)) (pw_or1 (pt_not (pt_val (pe_df (d_has_more T) (hr.mono (by decide)) (pa_cons (pv 0) pa_nil)))))))) (pss_cons (ps_fld (pv 0) pe_bl rfl)
      (pss_one (ps_ret (pe_lst pa_nil)))) pss_nil)
      (pss_cons (ps_if (pt_not (pt_truth (pe_fld (pv 0) rfl) (fun _ => rfl))) (pss_cons (ps_fld (pv 0) pe_bl rfl)
      (pss_cons (ps_expr (pe_df (d_start T) (hr.mono (by decide)) (pa_cons (pv 0) (pa_cons (pv 1) pa_nil))))
      (pss_one (ps_ret (pe_lst pa_nil))))) pss_nil)
      (pss_cons (ps_if (pt_cmpR op_lt (pe_op op_sub (pv 1) (pe_fld (pv 0) rfl)) (pe_fld (pv 0) rfl) (nomark _)) (pss_one (ps_ret (pe_lst pa_nil))) pss_nil)
      (pss_cons (ps_set (i := 2) sc_probe.nd rfl (Or.inl rfl) (pe_fld (pv 0) rfl))
      (pss_cons (ps_set (i := 3) sc_probe.nd rfl (Or.inl rfl) (pe_fld (pv 0) rfl))
      (pss_cons (ps_set (i := 4) sc_probe.nd rfl (Or.inl rfl) (pe_fld (pv 0) rfl))
      (pss_cons (ps_if (pt_cmpR op_gt (pe_df (d_unsent T) (hr.mono (by decide)) (pa_cons (pv 0) pa_nil)) pe_int (nomark _)) (pss_one (ps_set (i := 5) sc_probe.nd rfl (Or.inl rfl) (pe_df (d_data_goes T) (hr.mono (by decide)) (pa_cons (pv 0) (pa_cons (pv 1) (pa_cons pe_int pa_nil)))))) (pss_one (ps_set (i := 5) sc_probe.nd rfl (Or.inl rfl) (pe_df (d_fin_goes T) (hr.mono (by decide)) (pa_cons (pv 0) (pa_cons (pv 1) pa_nil))))))
      (pss_cons (ps_fld (pv 0) (pv 2) rfl)
      (pss_cons (ps_fld (pv 0) (pv 3) rfl)
      (pss_cons (ps_fld (pv 0) (pv 4) rfl)
      (pss_cons (ps_fld (pv 0) (pv 1) rfl)
      (pss_one (ps_ret (pv 5)))))))))))))), fun F l rs d rs' Q h k => ?_⟩)
  · obtain ⟨p, e, _, r, _, rfl, rfl, ⟨now, rfl, hz, rfl, rfl⟩, rfl⟩ := h
    rfl
  · obtain ⟨p, e, _, r, _, rfl, rfl, ⟨now, rfl, hz, rfl, rfl⟩, rfl⟩ := h
    have EF := EFT T
    refine Lg.g_when (Lg.tOr_ (Lg.tst (Lg.iB (Lg.callE (Lg.cons_ (Lg.var (n := 0) rfl) Lg.nil_) .here ⟨rfl, rfl, rfl⟩) Lg.cInt)) (fun hc1 => (Lg.tOr_ (Lg.tst (Lg.iB (Lg.r_wnd EF (Lg.var (n := 0) rfl) .here) Lg.cInt)) (fun hc2 => (Lg.tNot_ (Lg.tstB (Lg.callE (Lg.cons_ (Lg.var (n := 0) rfl) Lg.nil_) .here ⟨rfl, rfl, rfl⟩))))))) (fun h1 => ?_) (fun h1 => ?_)
    · refine Lg.w_probing EF Lg.cBl (Lg.var (n := 0) rfl) .here ?_
      rw [show E.probe e now = _ from (if_pos h1)] at k; exact Lg.g_ret (Lg.listI Lg.nilI (sz rfl)) rfl k
    · refine Lg.g_when (Lg.tNot_ (Lg.truB (Lg.r_probing EF (Lg.var (n := 0) rfl) .here))) (fun h2 => ?_) (fun h2 => ?_)
      · refine Lg.w_probing EF Lg.cBl (Lg.var (n := 0) rfl) .here ?_
        refine Lg.g_drop (Lg.callE (Lg.cons_ (Lg.var (n := 0) rfl) (Lg.cons_ (Lg.var (n := 1) rfl) Lg.nil_)) .here ⟨_, rfl, rfl, rfl⟩) ?_
        rw [show E.probe e now = _ from ((if_neg (M.fne h1)).trans (if_pos h2))] at k; exact Lg.g_ret (Lg.listI Lg.nilI (sz rfl)) rfl k
      · refine Lg.g_when (Lg.tst (Lg.iB (Lg.iI (Lg.var (n := 1) rfl) (Lg.r_since EF (Lg.var (n := 0) rfl) .here)) (Lg.r_wait EF (Lg.var (n := 0) rfl) .here))) (fun h3 => ?_) (fun h3 => ?_)
        · rw [show E.probe e now = _ from ((if_neg (M.fne h1)).trans ((if_neg (M.fne h2)).trans (if_pos h3)))] at k; exact Lg.g_ret (Lg.listI Lg.nilI (sz rfl)) rfl k
        · refine Lg.g_asg (ii := 2) (Lg.r_wait EF (Lg.var (n := 0) rfl) .here) ?_
          refine Lg.g_asg (ii := 3) (Lg.r_tries EF (Lg.var (n := 0) rfl) .here) ?_
          refine Lg.g_asg (ii := 4) (Lg.r_owes_answer EF (Lg.var (n := 0) rfl) .here) ?_
          refine Lg.g_if (Lg.tst (Lg.iB (Lg.callE (Lg.cons_ (Lg.var (n := 0) rfl) Lg.nil_) .here ⟨rfl, rfl, rfl⟩) Lg.cInt)) (fun h4 => ?_) (fun h4 => ?_)
          · refine Lg.g_asg1 (ii := 5) (Lg.callE (Lg.cons_ (Lg.var (n := 0) rfl) (Lg.cons_ (Lg.var (n := 1) rfl) (Lg.cons_ Lg.cInt Lg.nil_))) .here ⟨_, _, rfl, by assumption, rfl, rfl⟩) ?_
            refine Lg.g_next ?_
            refine Lg.w_wait EF (Lg.var (n := 2) rfl) (Lg.var (n := 0) rfl) .here ?_
            refine Lg.w_tries EF (Lg.var (n := 3) rfl) (Lg.var (n := 0) rfl) .here ?_
            refine Lg.w_owes_answer EF (Lg.var (n := 4) rfl) (Lg.var (n := 0) rfl) .here ?_
            refine Lg.w_since EF (Lg.var (n := 1) rfl) (Lg.var (n := 0) rfl) .here ?_
            rw [show E.probe e now = _ from ((if_neg (M.fne h1)).trans ((if_neg (M.fne h2)).trans ((if_neg (M.fne h3)).trans (if_pos h4))))] at k; exact Lg.g_ret (Lg.var (n := 5) rfl) rfl k
          · refine Lg.g_asg1 (ii := 5) (Lg.callE (Lg.cons_ (Lg.var (n := 0) rfl) (Lg.cons_ (Lg.var (n := 1) rfl) Lg.nil_)) .here ⟨_, rfl, rfl, rfl⟩) ?_
            refine Lg.g_next ?_
            refine Lg.w_wait EF (Lg.var (n := 2) rfl) (Lg.var (n := 0) rfl) .here ?_
            refine Lg.w_tries EF (Lg.var (n := 3) rfl) (Lg.var (n := 0) rfl) .here ?_
            refine Lg.w_owes_answer EF (Lg.var (n := 4) rfl) (Lg.var (n := 0) rfl) .here ?_
            refine Lg.w_since EF (Lg.var (n := 1) rfl) (Lg.var (n := 0) rfl) .here ?_
            rw [show E.probe e now = _ from ((if_neg (M.fne h1)).trans ((if_neg (M.fne h2)).trans ((if_neg (M.fne h3)).trans (if_neg (M.fne h4)))))] at k; exact Lg.g_ret (Lg.var (n := 5) rfl) rfl k
theorem sc_new_goes : FnScope ["end", "now", "space", "many"] ["end", "now"] (defScope s_new_goes) := ⟨rfl, rfl, rfl, by decide +kernel, rfl, by decide +kernel, by decide +kernel⟩
theorem d_new_goes (T : Tx fa fn ex w K mg) : Df P w K mg base CX0 6 "new_goes" ["end", "now"] (Lg.SpG K (Lg.RE K Lg.R_new_goes)) := by
  refine Lg.df_mkG T 60 90 rfl rfl sc_new_goes (fun kV doc pm an cdv ct us hl => match us, hl with | [_, _], _ => rfl) (fun l rs d rs' h => ?_) (fun f cdv A outer s H E0 hr => ⟨_, PSs.nox (pss_cons (ps_set (i := 2) sc_new_goes.nd rfl (Or.inl rfl) (pe_op op_sub (pe_fld (pv 0) rfl) (pe_df (d_outstanding T) (hr.mono (by decide)) (pa_cons (pv 0) pa_nil))))
      (pss_cons (ps_if (PW.pt (pw_and (pt_cmpR op_in_seq (pe_fld (pv 0) rfl) (pe_gr (T.glo 83)) (by rfl)) (pw_and1 (pt_cmpR op_gt (pe_df (d_unsent T) (hr.mono (by decide)) (pa_cons (pv 0) pa_nil)) pe_int (nomark _))))) (pss_cons (ps_set (i := 3) sc_new_goes.nd rfl (Or.inl rfl) (pe_callB (call_min4 rfl) (by rfl) (T.free 42) (by decide +kernel) (pa_cons (pe_fld (pv 0) rfl) (pa_cons (pe_gi (T.int 50)) (pa_cons (pe_df (d_unsent T) (hr.mono (by decide)) (pa_cons (pv 0) pa_nil)) (pa_cons (pe_callB (call_max2 rfl) (by rfl) (T.free 59) (by decide +kernel) (pa_cons pe_int (pa_cons (pv 2) pa_nil))) pa_nil))))))
      (pss_one (ps_if (pt_cmpR op_gt (pv 3) pe_int (nomark _)) (pss_one (ps_ret (pe_df (d_data_goes T) (hr.mono (by decide)) (pa_cons (pv 0) (pa_cons (pv 1) (pa_cons (pv 3) pa_nil)))))) pss_nil))) (pss_one (ps_if (PW.pt (pw_and (pt_cmpR op_in_seq (pe_fld (pv 0) rfl) (pe_gr (T.glo 84)) (by rfl)) (pw_and (pt_not (pt_truth (pe_fld (pv 0) rfl) (fun _ => rfl))) (pw_and1 (pt_cmpR op_gt (pv 2) pe_int (nomark _)))))) (pss_one (ps_ret (pe_df (d_fin_goes T) (hr.mono (by decide)) (pa_cons (pv 0) (pa_cons (pv 1) pa_nil))))) pss_nil)))
      (pss_one (ps_ret (pe_lst pa_nil))))), fun F l rs d rs' Q h k => ?_⟩)
  · obtain ⟨p, e, _, r, _, rfl, rfl, ⟨now, rfl, hz, rfl, rfl⟩, rfl⟩ := h
    rfl
  · obtain ⟨p, e, _, r, _, rfl, rfl, ⟨now, rfl, hz, rfl, rfl⟩, rfl⟩ := h
    have EF := EFT T
    refine Lg.g_asg (ii := 2) (Lg.iI (Lg.r_wnd EF (Lg.var (n := 0) rfl) .here) (Lg.callE (Lg.cons_ (Lg.var (n := 0) rfl) Lg.nil_) .here ⟨rfl, rfl, rfl⟩)) ?_
    refine Lg.g_if (Lg.tAnd_ (Lg.tst (Lg.inSt [.opn, .waitOne, .closeWait, .closing, .lastAck] (Lg.r_state EF (Lg.var (n := 0) rfl) .here) (Lg.gTup (GT_GIVING T)))) (fun hc1 => (Lg.tst (Lg.iB (Lg.callE (Lg.cons_ (Lg.var (n := 0) rfl) Lg.nil_) .here ⟨rfl, rfl, rfl⟩) Lg.cInt)))) (fun h1 => ?_) (fun h1 => ?_)
    · refine Lg.g_asg (ii := 3) (Lg.min4 (Lg.r_most EF (Lg.var (n := 0) rfl) .here) Lg.cInt (Lg.callE (Lg.cons_ (Lg.var (n := 0) rfl) Lg.nil_) .here ⟨rfl, rfl, rfl⟩) (Lg.max2 Lg.cInt (Lg.var (n := 2) rfl))) ?_
      refine Lg.g_when1 (Lg.tst (Lg.iB (Lg.var (n := 3) rfl) Lg.cInt)) (fun h2 => ?_) (fun h2 => ?_)
      · rw [show E.new_goes e now = _ from ((if_pos h1).trans (if_pos h2))] at k; exact Lg.g_ret (Lg.callE (Lg.cons_ (Lg.var (n := 0) rfl) (Lg.cons_ (Lg.var (n := 1) rfl) (Lg.cons_ (Lg.var (n := 3) rfl) Lg.nil_))) .here ⟨_, _, rfl, by assumption, rfl, rfl⟩) rfl k
      · refine Lg.g_next ?_
        rw [show E.new_goes e now = _ from ((if_pos h1).trans (if_neg (M.fne h2)))] at k; exact Lg.g_ret (Lg.listI Lg.nilI (sz rfl)) rfl k
    · refine Lg.g_when1 (Lg.tAnd_ (Lg.tst (Lg.inSt [.waitOne, .closing, .lastAck] (Lg.r_state EF (Lg.var (n := 0) rfl) .here) (Lg.gTup (GT_ENDING T)))) (fun hc1 => (Lg.tAnd_ (Lg.tNot_ (Lg.truB (Lg.r_fin_gone EF (Lg.var (n := 0) rfl) .here))) (fun hc2 => (Lg.tst (Lg.iB (Lg.var (n := 2) rfl) Lg.cInt)))))) (fun h2 => ?_) (fun h2 => ?_)
      · rw [show E.new_goes e now = _ from ((if_neg (M.fne h1)).trans (if_pos h2))] at k; exact Lg.g_ret (Lg.callE (Lg.cons_ (Lg.var (n := 0) rfl) (Lg.cons_ (Lg.var (n := 1) rfl) Lg.nil_)) .here ⟨_, rfl, rfl, rfl⟩) rfl k
      · refine Lg.g_next ?_
        rw [show E.new_goes e now = _ from ((if_neg (M.fne h1)).trans (if_neg (M.fne h2)))] at k; exact Lg.g_ret (Lg.listI Lg.nilI (sz rfl)) rfl k
theorem sc_Host_init : FnScope ["self", "first"] ["self", "first"] (defScope s_Host_init) := ⟨rfl, rfl, rfl, by decide +kernel, rfl, by decide +kernel, by decide +kernel⟩
theorem m_Host_init (T : Tx fa fn ex w K mg) : C8.Mak P w K mg base 6 "Host" (He.ga K "Host") (Lg.SpG K (Lg.R_initA K)) [] := by
  refine Lg.mak_of (MK_Host T) (T.glo 91) (Lg.ok_mkG (c := ("Host", some "__init__")) T 61 rfl sc_Host_init (fun kV doc pm an cdv ct us hl => match us, hl with | [_, _], _ => rfl) (fun l rs d rs' h => ?_) (fun f cdv A outer s H E0 hr => ⟨_, (pss_cons (ps_fld (pv 0) (pv 1) rfl)
      (pss_cons (ps_fld (pv 0) (pe_lst pa_nil) rfl)
      (pss_cons (ps_fld (pv 0) pe_dnewK rfl)
      (pss_cons (ps_fld (pv 0) pe_int rfl)
      (pss_one (ps_fld (pv 0) (pe_df (d_opened T) (hr.mono (by decide)) (pa_cons pe_int (pa_cons pe_int (pa_cons (pv 1) (pa_cons pe_bl pa_nil))))) rfl)))))), fun F l rs d rs' Q h k => ?_⟩))
  · obtain ⟨p, f, r, rfl, rfl, rfl, rfl⟩ := h
    rfl
  · have EF := EFT T
    have HF := HFT T
    obtain ⟨p, f, r, rfl, rfl, rfl, rfl⟩ := h
    refine Lg.g_raw HF.ch (HF.nh _ (by simp)) (Nat.lt_of_le_of_lt (Nat.le_refl 0) (by decide)) (Lg.ev_X (Lg.var (n := 1) rfl)) rfl (fun a0 => ?_)
    refine Lg.g_raw HF.ch (HF.nh _ (by simp)) (Nat.lt_of_le_of_lt (Lg.putD_b (Nat.le_refl 0)) (by decide)) (Lg.evX_swap (Lg.evN_X Lg.newL)) rfl (fun a1 => ?_)
    refine Lg.g_raw HF.ch (HF.nh _ (by simp)) (Nat.lt_of_le_of_lt (Lg.putD_b (Lg.putD_b (Nat.le_refl 0))) (by decide)) (Lg.evX_swap Lg.newK) rfl (fun a2 => ?_)
    refine Lg.g_raw HF.ch (HF.nh _ (by simp)) (Nat.lt_of_le_of_lt (Lg.putD_b (Lg.putD_b (Lg.putD_b (Nat.le_refl 0)))) (by decide)) (Lg.ev_X Lg.cInt) rfl (fun a3 => ?_)
    refine Lg.g_raw1 HF.ch (HF.nh _ (by simp)) (Nat.lt_of_le_of_lt (Lg.putD_b (Lg.putD_b (Lg.putD_b (Lg.putD_b (Nat.le_refl 0))))) (by decide)) (Lg.evX_swap (Lg.callX2 (Lg.cons_ Lg.cInt (Lg.cons_ Lg.cInt (Lg.cons_ (Lg.var (n := 1) rfl) (Lg.cons_ Lg.cBl Lg.nil_)))) ⟨_, _, _, _, rfl, rfl, rfl⟩)) rfl (fun a4 => ?_)
    exact Lg.g_conv (fun F H o => Lg.hostA_of_raw (by kernel_rfl) o) (Lg.g_end rfl k)
theorem sc_Host_calls : FnScope ["self", "ours", "theirs", "end"] ["self", "ours", "theirs"] (defScope s_Host_calls) := ⟨rfl, rfl, rfl, by decide +kernel, rfl, by decide +kernel, by decide +kernel⟩
theorem m_Host_calls (T : Tx fa fn ex w K mg) : MetX P w K mg base 6 (He.ga K "Host") "calls" (Lg.SpEX K (He.ga K "NoPort") (Lg.e_callsA K) (Lg.x_callsA K)) := by
  refine Lg.metX_of (HFT T).ch (HM T "calls" (by simp)) (Lg.ok_mkEX (c := ("Host", some "calls")) T 62 rfl sc_Host_calls (fun kV doc pm an cdv ct us hl => match us, hl with | [_, _, _], _ => rfl) (fun l rs ff gg h => ?_) (fun l rs h => ?_) (fun f cdv A outer s H E hr => ⟨_, (pss_cons (ps_if (pt_cmpR op_notN (C8.pe_mt (m_Host_found T) hr (by decide) (pv 0) (pa_cons (pv 1) (pa_cons (pv 2) pa_nil))) pe_non (nomark _)) (pss_one (ps_raiseC rfl (takes_of rfl rfl rfl rfl) (T.exc 19) (T.glo 20))) pss_nil)
      (pss_cons (ps_set (i := 3) sc_Host_calls.nd rfl (Or.inl rfl) (pe_df (d_opened T) (hr.mono (by decide)) (pa_cons (pv 1) (pa_cons (pv 2) (pa_cons (C8.pe_mt0 (m_Host_next T) hr (by decide) (pv 0)) (pa_cons pe_bl pa_nil))))))
      (pss_cons (ps_expr (pe_bm PySem.F.plainAttrs_list PySem.F.slot_list_append PySem.F.type_list_append mt_append (pe_fld (pv 0) rfl) (pa_cons (pv 3) pa_nil)))
      (pss_one (ps_ret (pv 3)))))), fun F l rs Q h => ?_⟩))
  · obtain ⟨p, as, hs, h, a, b, r, rfl, hn, hno, rfl, rfl, rfl⟩ := h
    rfl
  · obtain ⟨p, as, hs, h, a, b, r, rfl, rfl, i, q, e, ha, he, hhit, hfst⟩ := h
    rfl
  · have EF := EFT T
    have HF := HFT T
    rcases h with ⟨ff, gg, ⟨p, as, hs, h, a, b, r, rfl, hn, hno, rfl, rfl, rfl⟩, k⟩ | ⟨⟨p, as, hs, h, a, b, r, rfl, rfl, i, q, e, ha, he, hhit, hfst⟩, k⟩
    · refine Lg.g_no (Lg.tst (Lg.notNon (Lg.methA (h := h) (Lg.var (n := 0) rfl) .here (fun _ _ _ _ => by kernel_rfl) (Lg.cons_ (Lg.var (n := 1) rfl) (Lg.cons_ (Lg.var (n := 2) rfl) Lg.nil_)) ⟨p, as, hs, h, a, b, r, rfl, rfl, rfl, .inl ⟨hno, rfl⟩⟩) (b := true) (fun F v dv => by rw [show v = _ from dv]; first | rfl | exact decide_eq_false (fun z => by cases z)))) rfl ?_
      refine Lg.g_asgV (ii := 3) (Lg.callX2 (Lg.cons_ (Lg.var (n := 1) rfl) (Lg.cons_ (Lg.var (n := 2) rfl) (Lg.cons_ (Lg.methA (h := h) (Lg.var (n := 0) rfl) .here (fun _ _ _ _ => by kernel_rfl) Lg.nil_ ⟨p, as, hs, h, r, rfl, rfl, rfl, rfl⟩) (Lg.cons_ Lg.cBl Lg.nil_)))) ⟨_, _, _, _, rfl, rfl, rfl⟩) (fun q => ?_)
      refine Lg.g_sw ?_
      refine Lg.g_openA (fun el hd sp ls hl hl2 => ?_)
      refine Lg.g_appF (Lg.raw_fld (d := .ref el) HF.ch (HF.nh _ (by simp)) (Lg.var (n := 0) rfl) .here (by kernel_rfl)) (Lg.var (n := 3) rfl) (.there .here) (by rw [List.length_map, hl]; show h.ends.length < 100000; omega) ?_
      refine Lg.g_snocA hl hl2 ?_
      exact Lg.g_ret (Lg.var (n := 3) rfl) rfl (k q)
    · exact Lg.g_when (Lg.tst (Lg.notNon (Lg.methA (h := h) (Lg.var (n := 0) rfl) .here (fun _ _ _ _ => by kernel_rfl) (Lg.cons_ (Lg.var (n := 1) rfl) (Lg.cons_ (Lg.var (n := 2) rfl) Lg.nil_)) ⟨p, as, hs, h, a, b, r, rfl, rfl, rfl, .inr ⟨i, q, e, ha, he, hhit, hfst, rfl⟩⟩) (b := false) (fun F v dv => by rw [show v = _ from dv]; first | rfl | exact decide_eq_false (fun z => by cases z)))) (fun _ => Lg.g_raise k) (fun h1 => nomatch h1)
theorem sc_Host_made : FnScope ["self", "segment", "wanted", "end"] ["self", "segment"] (defScope s_Host_made) := ⟨rfl, rfl, rfl, by decide +kernel, rfl, by decide +kernel, by decide +kernel⟩
theorem m_Host_made (T : Tx fa fn ex w K mg) : C8.Met P w K mg base 6 (He.ga K "Host") "made_for" (Lg.SpE K (Lg.e_made K)) [] := by
  refine Lg.met_of (HFT T).ch (HM T "made_for" (by simp)) (Lg.ok_mkE (c := ("Host", some "made_for")) T 63 rfl sc_Host_made (fun kV doc pm an cdv ct us hl => match us, hl with | [_, _], _ => rfl) (fun l rs ff gg h => ?_) (fun f cdv A outer s H E0 hr => ⟨_, PSs.nox (pss_cons (ps_set (i := 2) sc_Host_made.nd rfl (Or.inl rfl) (pe_and (pe_df (d_has T) (hr.mono (by decide)) (pa_cons (pv 1) (pa_cons (pe_gi (T.int 26)) pa_nil))) (pe_and (pe_not (pe_df (d_has T) (hr.mono (by decide)) (pa_cons (pv 1) (pa_cons (pe_gi (T.int 32)) pa_nil)))) (pe_one (pe_not (pe_df (d_has T) (hr.mono (by decide)) (pa_cons (pv 1) (pa_cons (pe_gi (T.int 31)) pa_nil))))))))
      (pss_cons (ps_if (PW.pt (pw_and (pt_truth (pv 2) (fun _ => rfl)) (pw_and1 (pt_cmp (pc_din (hu_of hr) (pe_ix ix_tup (pv 1) pe_int (fun _ _ => rfl)) (pe_fld (pv 0) rfl)))))) (pss_cons (ps_set (i := 3) sc_Host_made.nd rfl (Or.inl rfl) (pe_df (d_opened T) (hr.mono (by decide)) (pa_cons (pe_ix ix_tup (pv 1) pe_int (fun _ _ => rfl)) (pa_cons (pe_ix ix_tup (pv 1) pe_int (fun _ _ => rfl)) (pa_cons (C8.pe_mt0 (m_Host_next T) hr (by decide) (pv 0)) (pa_cons pe_bl pa_nil))))))
      (pss_cons (ps_expr (pe_bm PySem.F.plainAttrs_list PySem.F.slot_list_append PySem.F.type_list_append mt_append (pe_fld (pv 0) rfl) (pa_cons (pv 3) pa_nil)))
      (pss_cons (ps_expr (pe_bm PySem.F.plainAttrs_list PySem.F.slot_list_append PySem.F.type_list_append mt_append (pe_dget (hu_of hr) (pe_fld (pv 0) rfl) (pe_ix ix_tup (pv 1) pe_int (fun _ _ => rfl)) (fun _ _ => rfl)) (pa_cons (pv 3) pa_nil)))
      (pss_one (ps_ret (pv 3)))))) pss_nil)
      (pss_cons (ps_if (pt_not (pt_val (pe_df (d_has T) (hr.mono (by decide)) (pa_cons (pv 1) (pa_cons (pe_gi (T.int 31)) pa_nil))))) (pss_cons (ps_fld (pe_fld (pv 0) rfl) (pe_ix ix_tup (pv 1) pe_int (fun _ _ => rfl)) rfl)
      (pss_one (ps_expr (pe_df (d_reset_for T) (hr.mono (by decide)) (pa_cons (pe_fld (pv 0) rfl) (pa_cons (pv 1) pa_nil)))))) pss_nil)
      (pss_one (ps_ret pe_non))))), fun F l rs ff gg Q h k => ?_⟩))
  · obtain ⟨p, as, hs, h, s, r, rfl, hn, hz, rfl, hR⟩ := h
    rfl
  · have EF := EFT T
    have HF := HFT T
    obtain ⟨p, as, hs, h, s, r, rfl, hn, hz, rfl, hR⟩ := h
    refine Lg.g_asg (ii := 2) (Lg.andV (Lg.call (Lg.cons_ (Lg.var (n := 1) rfl) (Lg.cons_ Lg.cInt Lg.nil_)) ⟨⟨_, _, rfl, ⟨by decide, by decide⟩, rfl⟩, rfl⟩) (fun hc1 => (Lg.andV (Lg.notV (Lg.call (Lg.cons_ (Lg.var (n := 1) rfl) (Lg.cons_ Lg.cInt Lg.nil_)) ⟨⟨_, _, rfl, ⟨by decide, by decide⟩, rfl⟩, rfl⟩)) (fun hc2 => (Lg.notV (Lg.call (Lg.cons_ (Lg.var (n := 1) rfl) (Lg.cons_ Lg.cInt Lg.nil_)) ⟨⟨_, _, rfl, ⟨by decide, by decide⟩, rfl⟩, rfl⟩)))))) ?_
    refine Lg.g_openA (fun el hd sp ls hl hl2 => ?_)
    rcases hR with ⟨hw, rfl, rfl⟩ | ⟨hw, rfl, rfl⟩
    · obtain ⟨hw1, hw2⟩ := Bool.and_eq_true_iff.mp hw
      obtain ⟨qs, hq⟩ := Option.isSome_iff_exists.mp hw2
      refine Lg.g_when (Lg.tAnd_ (Lg.truB (Lg.var (n := 2) rfl)) (fun _ => Lg.tst (Lg.inK (Lg.ixT (n := 1) (Lg.var (n := 1) rfl) Lg.cInt rfl) (Lg.raw_fld (d := .ref hd) HF.ch (HF.nh _ (by simp)) (Lg.var (n := 0) rfl) .here (by kernel_rfl)) (.there (.there .here))))) (fun _ => ?_) (fun h1 => ?_)
      · refine Lg.g_closeA hl hl2 ?_
        refine Lg.g_asgV (ii := 3) (Lg.callX2 (Lg.cons_ (Lg.ixT (n := 1) (Lg.var (n := 1) rfl) Lg.cInt rfl) (Lg.cons_ (Lg.ixT (n := 0) (Lg.var (n := 1) rfl) Lg.cInt rfl) (Lg.cons_ (Lg.methA (h := h) (Lg.var (n := 0) rfl) .here (fun _ _ _ _ => by kernel_rfl) Lg.nil_ ⟨p, as, hs, h, r, rfl, rfl, rfl, rfl⟩) (Lg.cons_ Lg.cBl Lg.nil_)))) ⟨_, _, _, _, rfl, rfl, rfl⟩) (fun q => ?_)
        refine Lg.g_sw ?_
        refine Lg.g_openA (fun el hd sp ls hl hl2 => ?_)
        obtain ⟨la, g1, g2, g3⟩ := Lg.heard_at (K := K) hl2 hq
        refine Lg.g_appF (Lg.raw_fld (d := .ref el) HF.ch (HF.nh _ (by simp)) (Lg.var (n := 0) rfl) .here (by kernel_rfl)) (Lg.var (n := 3) rfl) (.there .here) (by rw [List.length_map, hl]; show h.ends.length < 100000; omega) ?_
        refine Lg.g_appF (Lg.getK (Lg.raw_fld (d := .ref hd) HF.ch (HF.nh _ (by simp)) (Lg.var (n := 0) rfl) .here (by kernel_rfl)) (Lg.ixT (n := 1) (Lg.var (n := 1) rfl) Lg.cInt rfl) (.there (.there .here)) g1) (Lg.var (n := 3) rfl) (.there (.there (.there (.there (Lg.put_app (g2 q _) _))))) (by rw [List.length_map]; have := hz _ _ hq; omega) ?_
        rw [← Lg.addH_fst (p := s.goal) (q := q) (hs := hs)]
        refine Lg.g_snocA hl (hl2.trans Lg.addH_len.symm) ?_
        exact Lg.g_ret (Lg.var (n := 3) rfl) rfl (k q)
      · rw [Lg.heard_is hl2] at h1
        have h1 : (M.wants s && (hs.lookup s.goal).isSome) = false := h1
        rw [hw] at h1
        cases h1
    · refine Lg.g_when (Lg.tAnd_ (Lg.truB (Lg.var (n := 2) rfl)) (fun _ => Lg.tst (Lg.inK (Lg.ixT (n := 1) (Lg.var (n := 1) rfl) Lg.cInt rfl) (Lg.raw_fld (d := .ref hd) HF.ch (HF.nh _ (by simp)) (Lg.var (n := 0) rfl) .here (by kernel_rfl)) (.there (.there .here))))) (fun h1 => ?_) (fun _ => ?_)
      · rw [Lg.heard_is hl2] at h1
        have h1 : (M.wants s && (hs.lookup s.goal).isSome) = true := h1
        rw [hw] at h1
        cases h1
      · refine Lg.g_when (Lg.tNot_ (Lg.tstB (Lg.call (Lg.cons_ (Lg.var (n := 1) rfl) (Lg.cons_ Lg.cInt Lg.nil_)) ⟨⟨_, _, rfl, ⟨by decide, by decide⟩, rfl⟩, rfl⟩))) (fun h2 => ?_) (fun h2 => ?_)
        · rw [show M.howed h s = _ from if_pos h2] at k
          refine Lg.w_ours EF (Lg.ixT (n := 1) (Lg.var (n := 1) rfl) Lg.cInt rfl) (Lg.raw_fld (d := .ref sp) HF.ch (HF.nh _ (by simp)) (Lg.var (n := 0) rfl) .here (by kernel_rfl)) (.there (.there (.there .here))) ?_
          refine Lg.g_drop1 (Lg.callE (Lg.cons_ (Lg.raw_fld (d := .ref sp) HF.ch (HF.nh _ (by simp)) (Lg.var (n := 0) rfl) .here (by kernel_rfl)) (Lg.cons_ (Lg.var (n := 1) rfl) Lg.nil_)) (.there (.there (.there .here))) ⟨_, rfl, rfl, rfl⟩) (Lg.g_next ?_)
          exact Lg.g_closeA (h := { h with spare := E.reset_for { h.spare with ours := s.goal } s }) hl hl2 (Lg.g_ret Lg.cNon rfl (k p))
        · rw [show M.howed h s = _ from if_neg (M.fne h2)] at k
          exact Lg.g_closeA hl hl2 (Lg.g_ret Lg.cNon rfl (k p))
theorem sc_arrive_segment : FnScope ["end", "segment", "now"] ["end", "segment", "now"] (defScope s_arrive_segment) := ⟨rfl, rfl, rfl, by decide +kernel, rfl, by decide +kernel, by decide +kernel⟩
theorem d_arrive_segment (T : Tx fa fn ex w K mg) : Df P w K mg base CX0 7 "arrive_segment" ["end", "segment", "now"] (Lg.SpG K (Lg.RE K Lg.R_arrive_segment)) := by
  refine Lg.df_mkG T 64 92 rfl rfl sc_arrive_segment (fun kV doc pm an cdv ct us hl => match us, hl with | [_, _, _], _ => rfl) (fun l rs d rs' h => ?_) (fun f cdv A outer s H E0 hr => ⟨_, PSs.nox (pss_cons (ps_if (PW.pt (pw_or (pt_cmpR op_ne (pe_ix ix_tup (pv 1) pe_int (fun _ _ => rfl)) (pe_fld (pv 0) rfl) (nomark _)) (pw_or1 (PW.pt (pw_and (pt_cmpR op_notIn_seq (pe_fld (pv 0) rfl) (pe_tup (pa_cons (pe_gs (T.str 6)) (pa_cons (pe_gs (T.str 21)) pa_nil))) rfl) (pw_and1 (pt_cmpR op_ne (pe_ix ix_tup (pv 1) pe_int (fun _ _ => rfl)) (pe_fld (pv 0) rfl) (nomark _)))))))) (pss_one (ps_ret pe_bl)) pss_nil)
      (pss_cons (ps_if (pt_cmpR op_eq (pe_fld (pv 0) rfl) (pe_gs (T.str 6)) (nomark _)) (pss_one (ps_expr (pe_df (d_at_closed T) (hr.mono (by decide)) (pa_cons (pv 0) (pa_cons (pv 1) pa_nil))))) (pss_one (ps_if (pt_cmpR op_eq (pe_fld (pv 0) rfl) (pe_gs (T.str 21)) (nomark _)) (pss_one (ps_expr (pe_df (d_at_listen T) (hr.mono (by decide)) (pa_cons (pv 0) (pa_cons (pv 1) pa_nil))))) (pss_one (ps_if (pt_cmpR op_eq (pe_fld (pv 0) rfl) (pe_gs (T.str 56)) (nomark _)) (pss_one (ps_expr (pe_df (d_at_syn_sent T) (hr.mono (by decide)) (pa_cons (pv 0) (pa_cons (pv 1) (pa_cons (pv 2) pa_nil)))))) (pss_one (ps_expr (pe_df (d_at_others T) (hr.mono (by decide)) (pa_cons (pv 0) (pa_cons (pv 1) (pa_cons (pv 2) pa_nil)))))))))))
      (pss_one (ps_ret pe_bl)))), fun F l rs d rs' Q h k => ?_⟩)
  · obtain ⟨p, e, _, r, _, rfl, rfl, ⟨s, now, rfl, hp, hd, rfl, rfl⟩, rfl⟩ := h
    rfl
  · obtain ⟨p, e, _, r, _, rfl, rfl, ⟨s, now, rfl, hp, hd, rfl, rfl⟩, rfl⟩ := h
    have EF := EFT T
    refine Lg.g_when (Lg.tOr_ (Lg.tst (Lg.neI (Lg.ixT (n := 1) (Lg.var (n := 1) rfl) Lg.cInt rfl) (Lg.r_ours EF (Lg.var (n := 0) rfl) .here))) (fun hc1 => (Lg.tAnd_ (Lg.tst (Lg.niSt [.closed, .listen] (Lg.r_state EF (Lg.var (n := 0) rfl) .here) (Lg.tup_ (Lg.cons_ (Lg.cSt .closed) (Lg.cons_ (Lg.cSt .listen) Lg.nil_)) (sz rfl)))) (fun hc2 => (Lg.tst (Lg.neI (Lg.ixT (n := 0) (Lg.var (n := 1) rfl) Lg.cInt rfl) (Lg.r_theirs EF (Lg.var (n := 0) rfl) .here))))))) (fun h1 => ?_) (fun h1 => ?_)
    · rw [show E.arrive_segment e s now = _ from (if_pos h1)] at k; exact Lg.g_ret Lg.cBl rfl k
    · refine Lg.g_if (Lg.tst (Lg.eqSt (Lg.r_state EF (Lg.var (n := 0) rfl) .here) (Lg.cSt .closed))) (fun h2 => ?_) (fun h2 => ?_)
      · refine Lg.g_drop1 (Lg.callE (Lg.cons_ (Lg.var (n := 0) rfl) (Lg.cons_ (Lg.var (n := 1) rfl) Lg.nil_)) .here ⟨_, rfl, rfl, rfl⟩) ?_
        refine Lg.g_next ?_
        rw [show E.arrive_segment e s now = _ from ((if_neg (M.fne h1)).trans (if_pos h2))] at k; exact Lg.g_ret Lg.cBl rfl k
      · refine Lg.g_if1 (Lg.tst (Lg.eqSt (Lg.r_state EF (Lg.var (n := 0) rfl) .here) (Lg.cSt .listen))) (fun h3 => ?_) (fun h3 => ?_)
        · refine Lg.g_drop1 (Lg.callE (Lg.cons_ (Lg.var (n := 0) rfl) (Lg.cons_ (Lg.var (n := 1) rfl) Lg.nil_)) .here ⟨_, rfl, rfl, rfl⟩) ?_
          refine Lg.g_next ?_
          rw [show E.arrive_segment e s now = _ from ((if_neg (M.fne h1)).trans ((if_neg (M.fne h2)).trans (if_pos h3)))] at k; exact Lg.g_ret Lg.cBl rfl k
        · refine Lg.g_if1 (Lg.tst (Lg.eqSt (Lg.r_state EF (Lg.var (n := 0) rfl) .here) (Lg.cSt .synSent))) (fun h4 => ?_) (fun h4 => ?_)
          · refine Lg.g_drop1 (Lg.callE (Lg.cons_ (Lg.var (n := 0) rfl) (Lg.cons_ (Lg.var (n := 1) rfl) (Lg.cons_ (Lg.var (n := 2) rfl) Lg.nil_))) .here ⟨_, _, rfl, rfl, rfl⟩) ?_
            refine Lg.g_next ?_
            rw [show E.arrive_segment e s now = _ from ((if_neg (M.fne h1)).trans ((if_neg (M.fne h2)).trans ((if_neg (M.fne h3)).trans (if_pos h4))))] at k; exact Lg.g_ret Lg.cBl rfl k
          · refine Lg.g_drop1 (Lg.callE (Lg.cons_ (Lg.var (n := 0) rfl) (Lg.cons_ (Lg.var (n := 1) rfl) (Lg.cons_ (Lg.var (n := 2) rfl) Lg.nil_))) .here ⟨_, _, rfl, by assumption, by assumption, rfl, rfl⟩) ?_
            refine Lg.g_next ?_
            rw [show E.arrive_segment e s now = _ from ((if_neg (M.fne h1)).trans ((if_neg (M.fne h2)).trans ((if_neg (M.fne h3)).trans (if_neg (M.fne h4)))))] at k; exact Lg.g_ret Lg.cBl rfl k
theorem sc_send : FnScope ["end", "now", "row"] ["end", "now"] (defScope s_send) := ⟨rfl, rfl, rfl, by decide +kernel, rfl, by decide +kernel, by decide +kernel⟩
theorem d_send (T : Tx fa fn ex w K mg) : Df P w K mg base CX0 7 "send" ["end", "now"] (Lg.SpG K (Lg.RE K Lg.R_send)) := by
  refine Lg.df_mkG T 65 94 rfl rfl sc_send (fun kV doc pm an cdv ct us hl => match us, hl with | [_, _], _ => rfl) (fun l rs d rs' h => ?_) (fun f cdv A outer s H E0 hr => ⟨_, PSs.nox (pss_cons (ps_if (pt_cmpR op_notN (pe_fld (pv 0) rfl) pe_non (nomark _)) (pss_cons (ps_set (i := 2) sc_send.nd rfl (Or.inl rfl) (pe_df (d_put T) (hr.mono (by decide)) (pa_cons (pe_fld (pv 0) rfl) pa_nil)))
      (pss_cons (ps_fld (pv 0) pe_non rfl)
      (pss_one (ps_ret (pv 2))))) pss_nil)
      (Evl.pss_cut (ps_if (PW.pt (pw_and (pt_cmpR op_eq (pe_fld (pv 0) rfl) (pe_gs (T.str 33)) (nomark _)) (pw_and1 (pt_cmpR op_ge (pe_op op_sub (pv 1) (pe_fld (pv 0) rfl)) (pe_gi (T.int 93)) (nomark _))))) (pss_one (ps_expr (pe_df (d_shut T) (hr.mono (by decide)) (pa_cons (pv 0) (pa_cons (pe_fld (pv 0) rfl) pa_nil))))) pss_nil)
      (pss_cons (ps_if (pt_cmpR op_in_seq (pe_fld (pv 0) rfl) (pe_tup (pa_cons (pe_gs (T.str 6)) (pa_cons (pe_gs (T.str 21)) pa_nil))) rfl) (pss_one (ps_ret (pe_lst pa_nil))) pss_nil)
      (pss_cons (ps_if (PW.pt (pw_and (pt_cmpR op_gt (pe_df (d_outstanding T) (hr.mono (by decide)) (pa_cons (pv 0) pa_nil)) pe_int (nomark _)) (pw_and1 (pt_cmpR op_ge (pe_op op_sub (pv 1) (pe_fld (pv 0) rfl)) (pe_fld (pv 0) rfl) (nomark _))))) (pss_one (ps_ret (pe_df (d_again T) (hr.mono (by decide)) (pa_cons (pv 0) (pa_cons (pv 1) pa_nil))))) pss_nil)
      (pss_cons (ps_if (pt_cmpR op_in_seq (pe_fld (pv 0) rfl) (pe_tup (pa_cons (pe_gs (T.str 56)) (pa_cons (pe_gs (T.str 22)) pa_nil))) rfl) (pss_cons (ps_if (PW.pt (pw_or (pt_cmpR op_eq (pe_fld (pv 0) rfl) (pe_fld (pv 0) rfl) (nomark _)) (pw_or1 (pt_truth (pe_fld (pv 0) rfl) (fun _ => rfl))))) (pss_one (ps_ret (pe_df (d_syn_goes T) (hr.mono (by decide)) (pa_cons (pv 0) (pa_cons (pv 1) pa_nil))))) pss_nil)
      (pss_one (ps_ret (pe_df (d_answer_goes T) (hr.mono (by decide)) (pa_cons (pv 0) pa_nil))))) pss_nil)
      (pss_cons (ps_set (i := 2) sc_send.nd rfl (Or.inl rfl) (pe_df (d_new_goes T) (hr.mono (by decide)) (pa_cons (pv 0) (pa_cons (pv 1) pa_nil))))
      (pss_cons (ps_if (pt_not (pt_truth (pv 2) (fun _ => rfl))) (pss_one (ps_set (i := 2) sc_send.nd rfl (Or.inl rfl) (pe_df (d_probe T) (hr.mono (by decide)) (pa_cons (pv 0) (pa_cons (pv 1) pa_nil))))) pss_nil)
      (pss_cons (ps_if (pt_not (pt_truth (pv 2) (fun _ => rfl))) (pss_one (ps_set (i := 2) sc_send.nd rfl (Or.inl rfl) (pe_df (d_answer_goes T) (hr.mono (by decide)) (pa_cons (pv 0) pa_nil)))) pss_nil)
      (pss_one (ps_ret (pv 2))))))))))), fun F l rs d rs' Q h k => ?_⟩)
  · obtain ⟨p, e, _, r, _, rfl, rfl, ⟨now, rfl, hz, rfl, rfl⟩, rfl⟩ := h
    rfl
  · obtain ⟨p, e, _, r, _, rfl, rfl, ⟨now, rfl, hz, rfl, rfl⟩, rfl⟩ := h
    have EF := EFT T
    refine Lg.g_when (Lg.tst (Lg.notNon (Lg.r_reset EF (Lg.var (n := 0) rfl) .here) (fun _ _ => Lg.non_osg))) (fun h1 => ?_) (fun h1 => ?_)
    · obtain ⟨s, hs⟩ := M.some_of h1
      refine Lg.g_asg (ii := 2) (Lg.call (Lg.cons_ (Lg.is_ (Lg.r_reset EF (Lg.var (n := 0) rfl) .here) (show Lg.osg e.reset = Lg.sg s by rw [hs]; rfl)) Lg.nil_) ⟨⟨_, rfl, hz.reset s hs, rfl⟩, rfl⟩) ?_
      refine Lg.w_reset EF (Lg.is_ Lg.cNon (rfl : _ = Lg.osg none)) (Lg.var (n := 0) rfl) .here ?_
      rw [M.send_some hs] at k
      exact Lg.g_ret (Lg.var (n := 2) rfl) rfl k
    have hs := M.none_of h1
    refine Lg.g_cut (fun ds q => ∃ e1, ds = [some (.ref p), some (.int now), none] ∧ q = Lg.endR K p e1 :: r ∧ M.Sz e1 ∧ E.send e now = E.send2 e1 now) ?_ ?_
    · refine Lg.g_when1 (Lg.tAnd_ (Lg.tst (Lg.eqSt (Lg.r_state EF (Lg.var (n := 0) rfl) .here) (Lg.cSt .timeWait))) (fun hc1 => (Lg.tst (Lg.iB (Lg.iI (Lg.var (n := 1) rfl) (Lg.r_since EF (Lg.var (n := 0) rfl) .here)) Lg.cInt)))) (fun h2 => ?_) (fun h2 => ?_)
      · exact Lg.g_drop1 (Lg.callE (Lg.cons_ (Lg.var (n := 0) rfl) (Lg.cons_ (Lg.r_error EF (Lg.var (n := 0) rfl) .here) Lg.nil_)) .here ⟨_, rfl, rfl, rfl⟩) (Lg.g_post rfl ⟨M.shut e e.error, rfl, rfl, ⟨hz.out, hz.reset⟩, (M.send_none hs).trans (if_pos h2)⟩)
      · exact Lg.g_post rfl ⟨e, rfl, rfl, hz, (M.send_none hs).trans (if_neg (M.fne h2))⟩
    rintro ds q ⟨e1, rfl, rfl, hz1, he1⟩
    rw [he1] at k
    refine Lg.g_when (Lg.tst (Lg.inSt [.closed, .listen] (Lg.r_state EF (Lg.var (n := 0) rfl) .here) (Lg.tup_ (Lg.cons_ (Lg.cSt .closed) (Lg.cons_ (Lg.cSt .listen) Lg.nil_)) (sz rfl)))) (fun h1 => ?_) (fun h1 => ?_)
    · rw [show E.send2 e1 now = _ from (if_pos h1)] at k; exact Lg.g_ret (Lg.listI Lg.nilI (sz rfl)) rfl k
    · refine Lg.g_when (Lg.tAnd_ (Lg.tst (Lg.iB (Lg.callE (Lg.cons_ (Lg.var (n := 0) rfl) Lg.nil_) .here ⟨rfl, rfl, rfl⟩) Lg.cInt)) (fun hc1 => (Lg.tst (Lg.iB (Lg.iI (Lg.var (n := 1) rfl) (Lg.r_since EF (Lg.var (n := 0) rfl) .here)) (Lg.r_wait EF (Lg.var (n := 0) rfl) .here))))) (fun h2 => ?_) (fun h2 => ?_)
      · rw [show E.send2 e1 now = _ from ((if_neg (M.fne h1)).trans (if_pos h2))] at k; exact Lg.g_ret (Lg.callE (Lg.cons_ (Lg.var (n := 0) rfl) (Lg.cons_ (Lg.var (n := 1) rfl) Lg.nil_)) .here ⟨_, rfl, hz1, rfl, rfl⟩) rfl k
      · refine Lg.g_when (Lg.tst (Lg.inSt [.synSent, .synCome] (Lg.r_state EF (Lg.var (n := 0) rfl) .here) (Lg.tup_ (Lg.cons_ (Lg.cSt .synSent) (Lg.cons_ (Lg.cSt .synCome) Lg.nil_)) (sz rfl)))) (fun h3 => ?_) (fun h3 => ?_)
        · refine Lg.g_when (Lg.tOr_ (Lg.tst (Lg.eqI (Lg.r_nxt EF (Lg.var (n := 0) rfl) .here) (Lg.r_first EF (Lg.var (n := 0) rfl) .here))) (fun hc1 => (Lg.truB (Lg.r_owes_syn EF (Lg.var (n := 0) rfl) .here)))) (fun h4 => ?_) (fun h4 => ?_)
          · rw [show E.send2 e1 now = _ from ((if_neg (M.fne h1)).trans ((if_neg (M.fne h2)).trans ((if_pos h3).trans (if_pos h4))))] at k; exact Lg.g_ret (Lg.callE (Lg.cons_ (Lg.var (n := 0) rfl) (Lg.cons_ (Lg.var (n := 1) rfl) Lg.nil_)) .here ⟨_, rfl, rfl, rfl⟩) rfl k
          · rw [show E.send2 e1 now = _ from ((if_neg (M.fne h1)).trans ((if_neg (M.fne h2)).trans ((if_pos h3).trans (if_neg (M.fne h4)))))] at k; exact Lg.g_ret (Lg.callE (Lg.cons_ (Lg.var (n := 0) rfl) Lg.nil_) .here ⟨rfl, rfl, rfl⟩) rfl k
        · refine Lg.g_asg (ii := 2) (Lg.callE (Lg.cons_ (Lg.var (n := 0) rfl) (Lg.cons_ (Lg.var (n := 1) rfl) Lg.nil_)) .here ⟨_, rfl, hz1, rfl, rfl⟩) ?_
          refine Lg.g_when (Lg.tNot_ (Lg.truLi (Lg.var (n := 2) rfl))) (fun h4 => ?_) (fun h4 => ?_)
          · refine Lg.g_asg1 (ii := 2) (Lg.callE (Lg.cons_ (Lg.var (n := 0) rfl) (Lg.cons_ (Lg.var (n := 1) rfl) Lg.nil_)) .here ⟨_, rfl, M.sz_new hz1, rfl, rfl⟩) ?_
            refine Lg.g_next ?_
            refine Lg.g_when (Lg.tNot_ (Lg.truLi (Lg.var (n := 2) rfl))) (fun h5 => ?_) (fun h5 => ?_)
            · refine Lg.g_asg1 (ii := 2) (Lg.callE (Lg.cons_ (Lg.var (n := 0) rfl) Lg.nil_) .here ⟨rfl, rfl, rfl⟩) ?_
              refine Lg.g_next ?_
              rw [show E.send2 e1 now = _ from ((if_neg (M.fne h1)).trans ((if_neg (M.fne h2)).trans ((if_neg (M.fne h3)).trans ((if_pos h4).trans (if_pos h5)))))] at k; exact Lg.g_ret (Lg.var (n := 2) rfl) rfl k
            · rw [show E.send2 e1 now = _ from ((if_neg (M.fne h1)).trans ((if_neg (M.fne h2)).trans ((if_neg (M.fne h3)).trans ((if_pos h4).trans (if_neg (M.fne h5))))))] at k; exact Lg.g_ret (Lg.var (n := 2) rfl) rfl k
          · refine Lg.g_when (Lg.tNot_ (Lg.truLi (Lg.var (n := 2) rfl))) (fun h5 => ?_) (fun h5 => ?_)
            · refine Lg.g_asg1 (ii := 2) (Lg.callE (Lg.cons_ (Lg.var (n := 0) rfl) Lg.nil_) .here ⟨rfl, rfl, rfl⟩) ?_
              refine Lg.g_next ?_
              rw [show E.send2 e1 now = _ from ((if_neg (M.fne h1)).trans ((if_neg (M.fne h2)).trans ((if_neg (M.fne h3)).trans ((if_neg (M.fne h4)).trans (if_pos h5)))))] at k; exact Lg.g_ret (Lg.var (n := 2) rfl) rfl k
            · rw [show E.send2 e1 now = _ from ((if_neg (M.fne h1)).trans ((if_neg (M.fne h2)).trans ((if_neg (M.fne h3)).trans ((if_neg (M.fne h4)).trans (if_neg (M.fne h5))))))] at k; exact Lg.g_ret (Lg.var (n := 2) rfl) rfl k
theorem sc_Host_arrives : FnScope ["self", "row", "now", "end", "segment"] ["self", "row", "now"] (defScope s_Host_arrives) := ⟨rfl, rfl, rfl, by decide +kernel, rfl, by decide +kernel, by decide +kernel⟩
theorem m_Host_arrives (T : Tx fa fn ex w K mg) : C8.Met P w K mg base 8 (He.ga K "Host") "arrives" (Lg.SpE K (Lg.e_arrives K)) [] := by
  refine Lg.met_of (HFT T).ch (HM T "arrives" (by simp)) (Lg.ok_mkE (c := ("Host", some "arrives")) T 66 rfl sc_Host_arrives (fun kV doc pm an cdv ct us hl => match us, hl with | [_, _, _], _ => rfl) (fun l rs ff gg h => ?_) (fun f cdv A outer s H E0 hr => ⟨_, PSs.nox (pss_cons (ps_try_only rfl rfl ⟨rfl, by decide, .inl (T.glo 62)⟩ takes0 (fun W pn xe tk pw => (pss_one (ps_set (i := 4) sc_Host_arrives.nd rfl (Or.inl rfl) (pe_dfX (d_get T) (hr.mono (by decide)) tk (pa_cons (pv 1) pa_nil))))) (fun a oe cls dd pn hz hf => (pss_one (ps_ret pe_bl))))
      (pss_cons (ps_set (i := 3) sc_Host_arrives.nd rfl (Or.inl rfl) (C8.pe_mt (m_Host_found T) hr (by decide) (pv 0) (pa_cons (pe_ix ix_tup (pv 4) pe_int (fun _ _ => rfl)) (pa_cons (pe_ix ix_tup (pv 4) pe_int (fun _ _ => rfl)) pa_nil))))
      (pss_cons (ps_if (pt_cmpR op_isN (pv 3) pe_non (nomark _)) (pss_one (ps_set (i := 3) sc_Host_arrives.nd rfl (Or.inl rfl) (C8.pe_mt (m_Host_made T) hr (by decide) (pv 0) (pa_cons (pv 4) pa_nil)))) pss_nil)
      (pss_cons (ps_if (pt_cmpR op_notN (pv 3) pe_non (nomark _)) (pss_one (ps_expr (pe_df (d_arrive_segment T) (hr.mono (by decide)) (pa_cons (pv 3) (pa_cons (pv 4) (pa_cons (pv 2) pa_nil)))))) pss_nil)
      (pss_one (ps_ret pe_bl)))))), fun F l rs ff gg Q h k => ?_⟩))
  · obtain ⟨p, as, hs, h, row, now, r, rfl, hrl, hn, hz, hpz, rfl, hR⟩ := h
    rfl
  · have EF := EFT T
    have HF := HFT T
    obtain ⟨p, as, hs, h, row, now, r, rfl, hrl, hn, hz, hpz, rfl, hR⟩ := h
    refine Lg.g_try (Lg.cons_ (Lg.var (n := 1) rfl) Lg.nil_) ?_
    rcases hR with ⟨z, rfl, rfl⟩ | ⟨z, rfl, hR⟩
    · refine .inr ⟨⟨row, rfl, by omega, z⟩, T.exm 95, fun a => ?_⟩
      exact Lg.g_ret Lg.cBl rfl (k p)
    · refine .inl ⟨_, _, ⟨⟨row, rfl, by omega, z, rfl⟩, rfl⟩, ?_⟩
      have hdl : (M.getS row).data.length ≤ 1000 := Nat.le_trans (M.sl_len _ _ _) (by omega)
      rcases hR with ⟨hno, hw, rfl⟩ | ⟨hno, hw, rfl⟩ | ⟨i, q, e, ha, he, hhit, hfst, rfl⟩
      · refine Lg.g_asg (ii := 3) (Lg.methA (h := h) (Lg.var (n := 0) rfl) .here (fun _ _ _ _ => by kernel_rfl) (Lg.cons_ (Lg.ixT (n := 1) (Lg.var (n := 4) rfl) Lg.cInt rfl) (Lg.cons_ (Lg.ixT (n := 0) (Lg.var (n := 4) rfl) Lg.cInt rfl) Lg.nil_)) ⟨p, as, hs, h, _, _, r, rfl, rfl, rfl, .inl ⟨hno, rfl⟩⟩) ?_
        refine Lg.g_when (Lg.tst (Lg.isNon (Lg.var (n := 3) rfl) (b := true) (fun F v dv => by rw [show v = _ from dv]; first | rfl | exact decide_eq_false (fun z => by cases z)))) (fun _ => ?_) (fun h1 => nomatch h1)
        refine Lg.g_asgV1 (ii := 3) (Lg.methAE (h := h) (Lg.var (n := 0) rfl) .here (fun _ _ _ _ => by kernel_rfl) (Lg.cons_ (Lg.var (n := 4) rfl) Lg.nil_) ⟨p, as, hs, h, _, r, rfl, hn, hz, rfl, .inl ⟨hw, rfl, rfl⟩⟩) (fun q => Lg.g_next ?_)
        refine Lg.g_when (Lg.tst (Lg.notNon (Lg.var (n := 3) rfl) (b := false) (fun F v dv => by rw [show v = _ from dv]; first | rfl | exact decide_eq_false (fun z => by cases z)))) (fun _ => ?_) (fun h1 => nomatch h1)
        refine Lg.g_openA (fun el hd sp ls hl hl2 => ?_)
        have hl3 : as.length = h.ends.length := by
          have : (as ++ [q]).length = (h.ends ++ [_]).length := hl
          rw [List.length_append, List.length_append] at this
          exact Nat.add_right_cancel this
        refine Lg.g_drop1 (Lg.callE (Lg.cons_ (Lg.var (n := 3) rfl) (Lg.cons_ (Lg.var (n := 4) rfl) (Lg.cons_ (Lg.var (n := 2) rfl) Lg.nil_))) (.there (.there (.there (.there (Lg.put_nth (i := as.length) (as := as ++ [q]) (es := h.ends ++ [M.opened (M.getS row).goal (M.getS row).src h.first false]) (by rw [List.getElem?_append_right (Nat.le_refl _), Nat.sub_self]; rfl) (by rw [hl3, List.getElem?_append_right (Nat.le_refl _), Nat.sub_self]; rfl)))))) ⟨_, _, rfl, (by show (0 : Nat) ≤ 10000; decide), hdl, rfl, rfl⟩) (Lg.g_next ?_)
        rw [hl3, List.set_append_right _ _ (Nat.le_refl _), Nat.sub_self]
        exact Lg.g_closeA (h := M.hadd (M.hfirst h) (E.arrive_segment (M.opened (M.getS row).goal (M.getS row).src h.first false) (M.getS row) now).1) (by show (as ++ [q]).length = (h.ends ++ [_]).length; rw [List.length_append, List.length_append, hl3]; rfl) hl2 (Lg.g_ret Lg.cBl rfl (k q))
      · refine Lg.g_asg (ii := 3) (Lg.methA (h := h) (Lg.var (n := 0) rfl) .here (fun _ _ _ _ => by kernel_rfl) (Lg.cons_ (Lg.ixT (n := 1) (Lg.var (n := 4) rfl) Lg.cInt rfl) (Lg.cons_ (Lg.ixT (n := 0) (Lg.var (n := 4) rfl) Lg.cInt rfl) Lg.nil_)) ⟨p, as, hs, h, _, _, r, rfl, rfl, rfl, .inl ⟨hno, rfl⟩⟩) ?_
        refine Lg.g_when (Lg.tst (Lg.isNon (Lg.var (n := 3) rfl) (b := true) (fun F v dv => by rw [show v = _ from dv]; first | rfl | exact decide_eq_false (fun z => by cases z)))) (fun _ => ?_) (fun h1 => nomatch h1)
        refine Lg.g_asgV1 (ii := 3) (Lg.methAE (h := h) (Lg.var (n := 0) rfl) .here (fun _ _ _ _ => by kernel_rfl) (Lg.cons_ (Lg.var (n := 4) rfl) Lg.nil_) ⟨p, as, hs, h, _, r, rfl, hn, hz, rfl, .inr ⟨hw, rfl, rfl⟩⟩) (fun q => Lg.g_next ?_)
        refine Lg.g_no (Lg.tst (Lg.notNon (Lg.var (n := 3) rfl) (b := true) (fun F v dv => by rw [show v = _ from dv]; first | rfl | exact decide_eq_false (fun z => by cases z)))) rfl ?_
        exact Lg.g_ret Lg.cBl rfl (k p)
      · refine Lg.g_asg (ii := 3) (Lg.methA (h := h) (Lg.var (n := 0) rfl) .here (fun _ _ _ _ => by kernel_rfl) (Lg.cons_ (Lg.ixT (n := 1) (Lg.var (n := 4) rfl) Lg.cInt rfl) (Lg.cons_ (Lg.ixT (n := 0) (Lg.var (n := 4) rfl) Lg.cInt rfl) Lg.nil_)) ⟨p, as, hs, h, _, _, r, rfl, rfl, rfl, .inr ⟨i, q, e, ha, he, hhit, hfst, rfl⟩⟩) ?_
        refine Lg.g_no (Lg.tst (Lg.isNon (Lg.var (n := 3) rfl) (b := false) (fun F v dv => by rw [show v = _ from dv]; first | rfl | exact decide_eq_false (fun z => by cases z)))) rfl ?_
        refine Lg.g_when (Lg.tst (Lg.notNon (Lg.var (n := 3) rfl) (b := false) (fun F v dv => by rw [show v = _ from dv]; first | rfl | exact decide_eq_false (fun z => by cases z)))) (fun _ => ?_) (fun h1 => nomatch h1)
        refine Lg.g_openA (fun el hd sp ls hl hl2 => ?_)
        refine Lg.g_drop1 (Lg.callE (Lg.cons_ (Lg.var (n := 3) rfl) (Lg.cons_ (Lg.var (n := 4) rfl) (Lg.cons_ (Lg.var (n := 2) rfl) Lg.nil_))) (.there (.there (.there (.there (Lg.put_nth ha he))))) ⟨_, _, rfl, hpz e (List.mem_of_getElem? he), hdl, rfl, rfl⟩) (Lg.g_next ?_)
        exact Lg.g_closeA (h := M.hset h i (E.arrive_segment e (M.getS row) now).1) (by show as.length = (h.ends.set _ _).length; rw [List.length_set, hl]) hl2 (Lg.g_ret Lg.cBl rfl (k p))
theorem sc_Host_sends : FnScope ["self", "now", "row", "k", "end"] ["self", "now"] (defScope s_Host_sends) := ⟨rfl, rfl, rfl, by decide +kernel, rfl, by decide +kernel, by decide +kernel⟩
theorem m_Host_sends (T : Tx fa fn ex w K mg) : C8.Met P w K mg base 8 (He.ga K "Host") "sends" (Lg.SpG K (Lg.R_sendsA K)) [] := by
  refine Lg.met_of (HFT T).ch (HM T "sends" (by simp)) (Lg.ok_mkG (c := ("Host", some "sends")) T 67 rfl sc_Host_sends (fun kV doc pm an cdv ct us hl => match us, hl with | [_, _], _ => rfl) (fun l rs d rs' h => ?_) (fun f cdv A outer s H E0 hr => ⟨_, (pss_cons (ps_set (i := 2) sc_Host_sends.nd rfl (Or.inl rfl) (pe_df (d_send T) (hr.mono (by decide)) (pa_cons (pe_fld (pv 0) rfl) (pa_cons (pv 1) pa_nil))))
      (pss_cons (ps_if (pt_truth (pv 2) (fun _ => rfl)) (pss_one (ps_ret (pv 2))) pss_nil)
      (pss_cons (ps_for PassesOwn.never rfl (pi_range1 rfl (T.free 9) (pa_cons (pe_callB call_len_seq (by rfl) (T.free 10) PySem.boot_len (pa_cons (pe_fld (pv 0) rfl) pa_nil)) pa_nil)) (pg_name (i := 3) sc_Host_sends.nd rfl (Or.inl rfl)) (pss_cons (ps_set (i := 4) sc_Host_sends.nd rfl (Or.inl rfl) (pe_ix ix_list (pe_fld (pv 0) rfl) (pe_op op_mod (pe_op op_add (pe_fld (pv 0) rfl) (pv 3)) (pe_callB call_len_seq (by rfl) (T.free 10) PySem.boot_len (pa_cons (pe_fld (pv 0) rfl) pa_nil))) (fun _ _ => rfl)))
      (pss_cons (ps_set (i := 2) sc_Host_sends.nd rfl (Or.inl rfl) (pe_df (d_send T) (hr.mono (by decide)) (pa_cons (pv 4) (pa_cons (pv 1) pa_nil))))
      (pss_one (ps_if (pt_truth (pv 2) (fun _ => rfl)) (pss_cons (ps_fld (pv 0) (pe_op op_mod (pe_op op_add (pe_op op_add (pe_fld (pv 0) rfl) (pv 3)) pe_int) (pe_callB call_len_seq (by rfl) (T.free 10) PySem.boot_len (pa_cons (pe_fld (pv 0) rfl) pa_nil))) rfl)
      (pss_one (ps_ret (pv 2)))) pss_nil)))))
      (pss_one (ps_ret (pe_lst pa_nil)))))), fun F l rs d rs' Q h k => ?_⟩))
  · obtain ⟨p, as, hs, h, now, r, rfl, hz, rfl, rfl, rfl⟩ := h
    rfl
  · have EF := EFT T
    have HF := HFT T
    obtain ⟨p, as, hs, h, now, r, rfl, hz, rfl, rfl, rfl⟩ := h
    refine Lg.g_openA (fun el hd sp ls hl hl2 => ?_)
    refine Lg.g_asg (ii := 2) (Lg.callE (Lg.cons_ (Lg.raw_fld (d := .ref sp) HF.ch (HF.nh _ (by simp)) (Lg.var (n := 0) rfl) .here (by kernel_rfl)) (Lg.cons_ (Lg.var (n := 1) rfl) Lg.nil_)) (.there (.there (.there .here))) ⟨now, rfl, hz.sp, rfl, rfl⟩) ?_
    refine Lg.g_when (Lg.truLi (Lg.var (n := 2) rfl)) (fun h1 => ?_) (fun h1 => ?_)
    · rw [show M.hsends h now = _ from if_pos h1] at k
      exact Lg.g_closeA (h := { h with spare := (E.send h.spare now).1 }) hl hl2 (Lg.g_ret (Lg.var (n := 2) rfl) rfl k)
    rw [show M.hsends h now = _ from if_neg (M.fne h1)] at k
    have hz0 : M.HSz { h with spare := (E.send h.spare now).1 } := ⟨M.sz_send hz.sp, hz.en, hz.nu⟩
    have hl0 : as.length = ({ h with spare := (E.send h.spare now).1 } : M.HostS).ends.length := hl
    have hn0 : h.ends.length = ({ h with spare := (E.send h.spare now).1 } : M.HostS).ends.length := rfl
    generalize row0 : (E.send h.spare now).2 = row
    change Lg.G _ _ _ _ _ (Lg.openA K p el hd sp as ls hs { h with spare := (E.send h.spare now).1 } r)
    generalize ({ h with spare := (E.send h.spare now).1 } : M.HostS) = h0 at k hz0 hl0 hn0
    rw [hn0] at k
    refine Lg.g_ds (ds' := [_, _, _, _, _]) rfl ?_
    refine Lg.g_forR1 (ii := 3) (Lg.cons_ (Lg.lenF (Lg.raw_fld (d := .ref el) HF.ch (HF.nh _ (by simp)) (Lg.var (n := 0) rfl) .here (by kernel_rfl)) (.there .here)) Lg.nil_) (by have := hz0.nu; rw [List.length_map, hl0]; omega) (fun i ds q => ∃ (h1 : M.HostS) (ev kv rv : Option Lg.Da), h1.ends.length = h0.ends.length ∧ M.HSz h1 ∧ M.hgo now h0.ends.length 0 h0 = M.hgo now (h0.ends.length - i) i h1 ∧ ds = [some (.ref p), some (.int now), rv, kv, ev] ∧ q = Lg.openA K p el hd sp as ls hs h1 r) ⟨h0, none, none, _, rfl, hz0, rfl, rfl, rfl⟩ ?_ ?_
    · rintro i ds q hi ⟨h1, ev, kv, rv, hln, hz1, hg, rfl, rfl⟩
      have hla : (as.map Lg.Da.ref).length = h1.ends.length := by rw [List.length_map, hl0, hln]
      rw [hla] at hi
      have hpos : 0 < h1.ends.length := by omega
      obtain ⟨hlt, hix⟩ := M.hidx_ok i hpos
      have hmod : (0 : Int) < ((as.map Lg.Da.ref).length : Int) := by rw [hla]; omega
      have ha : as[M.hidx h1 i]? = some as[M.hidx h1 i] := List.getElem?_eq_getElem _
      have he : h1.ends[M.hidx h1 i]? = some h1.ends[M.hidx h1 i] := List.getElem?_eq_getElem hlt
      generalize as[M.hidx h1 i]'(by rw [hl0, ← hln]; exact hlt) = a2 at ha
      generalize h1.ends[M.hidx h1 i]'hlt = e at he
      have hze := hz1.en e (List.mem_of_getElem? he)
      refine Lg.g_asg (ii := 4) (Lg.ixF (Lg.raw_fld (d := .ref el) HF.ch (HF.nh _ (by simp)) (Lg.var (n := 0) rfl) .here (by kernel_rfl)) (Lg.is_ (Lg.iC hmod (Lg.iI (Lg.raw_fld (d := .int h1.turn) HF.ch (HF.nh _ (by simp)) (Lg.var (n := 0) rfl) .here (by kernel_rfl)) (Lg.var (n := 3) rfl)) (Lg.lenF (Lg.raw_fld (d := .ref el) HF.ch (HF.nh _ (by simp)) (Lg.var (n := 0) rfl) .here (by kernel_rfl)) (.there .here))) (congrArg Lg.Da.int (show (h1.turn + (i : Int)) % ((as.map Lg.Da.ref).length : Int) = ((M.hidx h1 i : Nat) : Int) by rw [hla]; exact hix))) (.there .here) (by rw [List.getElem?_map, ha]; rfl)) ?_
      refine Lg.g_asg (ii := 2) (Lg.callE (Lg.cons_ (Lg.var (n := 4) rfl) (Lg.cons_ (Lg.var (n := 1) rfl) Lg.nil_)) (.there (.there (.there (.there (Lg.put_nth ha he))))) ⟨now, rfl, hze, rfl, rfl⟩) ?_
      have hg2 := hg
      rw [show h0.ends.length - i = (h0.ends.length - (i + 1)) + 1 by omega, M.hgo_step he] at hg2
      refine Lg.g_when1 (Lg.truLi (Lg.var (n := 2) rfl)) (fun h2 => ?_) (fun h2 => ?_)
      · rw [if_pos h2] at hg2
        rw [hg2] at k
        change Lg.G _ _ _ _ _ (Lg.openA K p el hd sp as ls hs { h1 with ends := h1.ends.set (M.hidx h1 i) (E.send e now).1 } r)
        refine Lg.g_raw HF.ch (HF.nh _ (by simp)) (Nat.lt_of_le_of_lt (show _ ≤ 5 from Nat.le_refl _) (by decide)) (Lg.ev_X (Lg.is_ (Lg.iC hmod (Lg.iI (Lg.iI (Lg.raw_fld (d := .int h1.turn) HF.ch (HF.nh _ (by simp)) (Lg.var (n := 0) rfl) .here (by kernel_rfl)) (Lg.var (n := 3) rfl)) Lg.cInt) (Lg.lenF (Lg.raw_fld (d := .ref el) HF.ch (HF.nh _ (by simp)) (Lg.var (n := 0) rfl) .here (by kernel_rfl)) (.there .here))) (congrArg Lg.Da.int (show (h1.turn + (i : Int) + 1) % ((as.map Lg.Da.ref).length : Int) = (h1.turn + (i : Int) + 1) % (h1.ends.length : Int) by rw [hla])))) rfl (fun a0 => ?_)
        refine Lg.g_rawE (fs' := Lg.hfs el hd sp { h1 with ends := h1.ends.set (M.hidx h1 i) (E.send e now).1, turn := (h1.turn + (i : Int) + 1) % (h1.ends.length : Int) }) (by kernel_rfl) ?_
        exact Lg.g_closeA (h := { h1 with ends := h1.ends.set (M.hidx h1 i) (E.send e now).1, turn := (h1.turn + (i : Int) + 1) % (h1.ends.length : Int) }) (by show as.length = (h1.ends.set _ _).length; rw [List.length_set, hl0, hln]) hl2 (Lg.g_ret (Lg.var (n := 2) rfl) rfl k)
      · rw [if_neg (M.fne h2)] at hg2
        exact Lg.g_post rfl ⟨{ h1 with ends := h1.ends.set (M.hidx h1 i) (E.send e now).1 }, _, _, _, by show (h1.ends.set _ _).length = _; rw [List.length_set, hln], M.hz_set hz1 (M.sz_send hze), hg2, rfl, rfl⟩
    rintro ds q ⟨h1, ev, kv, rv, hln, hz1, hg, rfl, rfl⟩
    have hg2 : M.hgo now h0.ends.length 0 h0 = (h1, []) := by
      rw [hg, List.length_map, hl0, Int.toNat_natCast, Nat.sub_self]
      rfl
    rw [hg2] at k
    exact Lg.g_closeA (by rw [hl0, hln]) hl2 (Lg.g_ret (Lg.listI Lg.nilI (by decide)) rfl k)
theorem sc_lflow : FnScope ["_law_hosts", "_law_number", "_law_k", "_law_still", "_law_j", "_law_row"] ["_law_hosts", "_law_number"] (defScope s_lflow) := ⟨rfl, rfl, rfl, by decide +kernel, rfl, by decide +kernel, by decide +kernel⟩
theorem d_lflow (T : Tx fa fn ex w K mg) : Df P w K mg base CX0 9 "_law_flow" ["_law_hosts", "_law_number"] (Lg.SpG K (Lg.R_flow K)) := by
  refine Lg.df_mkG T 68 96 rfl rfl sc_lflow (fun kV doc pm an cdv ct us hl => match us, hl with | [_, _], _ => rfl) (fun l rs d rs' h => ?_) (fun f cdv A outer s H E0 hr => ⟨_, PSs.nox (pss_cons (ps_for PassesOwn.never rfl (pi_range1 rfl (T.free 9) (pa_cons pe_int pa_nil)) (pg_name (i := 2) sc_lflow.nd rfl (Or.inl rfl)) (pss_cons (ps_set (i := 3) sc_lflow.nd rfl (Or.inl rfl) pe_bl)
      (pss_cons (ps_for PassesOwn.never rfl (pi_range1 rfl (T.free 9) (pa_cons pe_int pa_nil)) (pg_name (i := 4) sc_lflow.nd rfl (Or.inl rfl)) (pss_cons (ps_set (i := 5) sc_lflow.nd rfl (Or.inl rfl) (C8.pe_mt (m_Host_sends T) hr (by decide) (pe_ix ix_list (pv 0) (pv 4) (fun _ _ => rfl)) (pa_cons pe_int pa_nil)))
      (pss_one (ps_if (pt_cmpR (op_neD hr.units) (pv 5) (pe_lst pa_nil) (nomark _)) (pss_cons (ps_set (i := 3) sc_lflow.nd rfl (Or.inl rfl) pe_bl)
      (pss_cons (ps_expr (C8.pe_mt (m_Host_arrives T) hr (by decide) (pe_ix ix_list (pv 0) (pe_op op_sub pe_int (pv 4)) (fun _ _ => rfl)) (pa_cons (pv 5) (pa_cons pe_int pa_nil))))
      (pss_one (ps_if (pt_cmpR op_eq (pe_op op_mod (pe_op op_add (pv 1) (pv 2)) pe_int) pe_int (nomark _)) (pss_one (ps_expr (C8.pe_mt (m_Host_arrives T) hr (by decide) (pe_ix ix_list (pv 0) (pe_op op_sub pe_int (pv 4)) (fun _ _ => rfl)) (pa_cons (pv 5) (pa_cons pe_int pa_nil))))) pss_nil)))) pss_nil))))
      (pss_one (ps_if (pt_truth (pv 3) (fun _ => rfl)) (pss_one (ps_ret pe_bl)) pss_nil)))))
      (pss_one (ps_ret pe_bl))), fun F l rs d rs' Q h k => ?_⟩)
  · obtain ⟨p0, p1, N, b, cs, pre, x0, x1, b0, b1, nu, r, rfl, ok, hcs, hnu, hfl, rfl, rfl, rfl⟩ := h
    rfl
  · obtain ⟨p0, p1, N, b, cs, pre, x0, x1, b0, b1, nu, r, rfl, ok, hcs, hnu, hfl, rfl, rfl, rfl⟩ := h
    have k0 := k
    clear k
    refine Lg.g_forR1 (ii := 2) (Lg.cons_ Lg.cInt Lg.nil_) ⟨by decide, by decide⟩ (fun k ds q => ∃ (x0 x1 : A40.Ho) (kv sv jv rv : Option Lg.Da), A40.flow b (nu % 4).toNat (40 - k) k x0 x1 = some (b0, b1) ∧ ds = [some (.list [.ref p0, .ref p1]), some (.int nu), kv, sv, jv, rv] ∧ q = Lg.netR K p0 p1 N cs pre x0 x1 :: r) ⟨x0, x1, none, none, none, none, hfl, rfl, rfl⟩ ?_ ?_
    · clear hfl x0 x1
      rintro k ds q hk ⟨x0, x1, kv, sv, jv, rv, hfl, rfl, rfl⟩
      have hk2 : k < 40 := by omega
      rw [show 40 - k = (40 - (k + 1)) + 1 by omega] at hfl
      obtain ⟨a0, a1, s0, c0, c1, s1, f1, f2, f3⟩ := A40.flow_step hfl
      obtain ⟨dup, hdp0⟩ : ∃ x, x = decide (((nu % 4).toNat + k) % 4 = 0) := ⟨_, rfl⟩
      rw [← hdp0] at f1 f2
      have hdup : decide ((nu + (k : Int)) % 4 = 0) = dup := by
        rw [hdp0]
        exact decide_eq_decide.mpr (by omega)
      refine Lg.g_asg (ii := 3) Lg.cBl ?_
      refine Lg.g_ds (ds' := [_, _, _, _, _, _]) rfl ?_
      refine Lg.g_forR1 (ii := 4) (Lg.cons_ Lg.cInt Lg.nil_) ⟨by decide, by decide⟩ (fun j ds q => ∃ (jv rv : Option Lg.Da), ds = [some (.list [.ref p0, .ref p1]), some (.int nu), some (.int (k : Int)), some (.bl (if j = 0 then true else if j = 1 then s0 else s0 && s1)), jv, rv] ∧ q = Lg.netR K p0 p1 N cs pre (if j = 0 then x0 else if j = 1 then a0 else c0) (if j = 0 then x1 else if j = 1 then a1 else c1) :: r) ⟨_, _, rfl, rfl⟩ ?_ ?_
      · rintro j ds q hj ⟨jv, rv, rfl, rfl⟩
        have hj2 : j < 2 := by omega
        match j, hj2 with
        | 0, _ =>
          show Lg.G _ _ _ _ _ (Lg.netR K p0 p1 N cs pre x0 x1 :: r)
          refine Lg.g_openN (fun as h0 h1 P => ?_)
          have z := P.R0.sz ok.ok.sw P.l0 ok.n4
          have hs := M.hs_rel ok.ok.sw P.l0 P.R0
          refine Lg.g_asg (ii := 5) (Lg.methA (h := h0) (Lg.ixL (n := 0) (Lg.var (n := 0) rfl) (Lg.var (n := 4) rfl) rfl) .here (fun _ _ _ _ => by kernel_rfl) (Lg.cons_ Lg.cInt Lg.nil_) ⟨p0, as, _, h0, 5, _, rfl, z.1, rfl, rfl, rfl⟩) ?_
          rcases A40.half_cases f1 with ⟨q, rfl, rfl, rfl⟩ | ⟨i, kd, o1, q, har, rfl, hdp⟩
          · rw [q] at hs
            have hs : M.hsends h0 5 = (h0, []) := hs
            rw [hs]
            refine Lg.g_when1 (Lg.tst (Lg.neLi (Lg.var (n := 5) rfl) (Lg.listI Lg.nilI (by decide)))) (fun hc => ?_) (fun hc => ?_)
            · simp at hc
            · exact Lg.g_closeN P (Lg.g_post rfl ⟨_, _, rfl, rfl⟩)
          · rw [q] at hs
            obtain ⟨h', row, hs1, hne, hrow, R', hi, hl', hf'⟩ := hs
            rw [hs1]
            refine Lg.g_when1 (Lg.tst (Lg.neLi (Lg.var (n := 5) rfl) (Lg.listI Lg.nilI (by decide)))) (fun hc => ?_) (fun hc => absurd (by simpa using hc) hne)
            refine Lg.g_asg (ii := 3) Lg.cBl ?_
            refine Lg.g_sw ?_
            refine Lg.g_arr2 ok hcs P.l1 P.R1 (by have := P.l0; omega) hrow har (Lg.ixL (n := 1) (Lg.var (n := 0) rfl) (Lg.is_ (Lg.iI Lg.cInt (Lg.var (n := 4) rfl)) (show _ = Lg.Da.int ((1 : Nat) : Int) from congrArg Lg.Da.int (by decide))) rfl) (Lg.cons_ (Lg.var (n := 5) rfl) (Lg.cons_ Lg.cInt Lg.nil_)) (fun h1' l1' R1' => ?_)
            refine Lg.g_when1 (Lg.isT (Lg.tst (Lg.eqI (Lg.iC (by decide) (Lg.iI (Lg.var (n := 1) rfl) (Lg.var (n := 2) rfl)) Lg.cInt) Lg.cInt)) hdup) (fun hd => ?_) (fun hd => ?_)
            · have hdd : A40.arr false b o1 i kd = some a1 := by rw [hd] at hdp; exact hdp
              refine Lg.g_arr21 ok hcs l1' R1' (by have := P.l0; omega) hrow hdd (Lg.ixL (n := 1) (Lg.var (n := 0) rfl) (Lg.is_ (Lg.iI Lg.cInt (Lg.var (n := 4) rfl)) (show _ = Lg.Da.int ((1 : Nat) : Int) from congrArg Lg.Da.int (by decide))) rfl) (Lg.cons_ (Lg.var (n := 5) rfl) (Lg.cons_ Lg.cInt Lg.nil_)) (fun h1'' l1'' R1'' => ?_)
              exact Lg.g_sw (Lg.g_closeN ⟨P.pre, P.len.trans hl'.symm, by rw [hl']; exact P.l0, l1'', R', R1'', by rw [hf', hl']; exact P.fst⟩ (Lg.g_post rfl ⟨_, _, rfl, rfl⟩))
            · have hdd : a1 = o1 := by rw [hd] at hdp; exact hdp
              subst hdd
              exact Lg.g_sw (Lg.g_closeN ⟨P.pre, P.len.trans hl'.symm, by rw [hl']; exact P.l0, l1', R', R1', by rw [hf', hl']; exact P.fst⟩ (Lg.g_post rfl ⟨_, _, rfl, rfl⟩))
        | 1, _ =>
          show Lg.G _ _ _ _ _ (Lg.netR K p0 p1 N cs pre a0 a1 :: r)
          refine Lg.g_openN (fun as h0 h1 P => ?_)
          have z := P.R1.sz ok.ok (Nat.le_of_eq P.l1) ok.n4
          have hs := M.hs_rel ok.ok (Nat.le_of_eq P.l1) P.R1
          refine Lg.g_sw ?_
          refine Lg.g_asg (ii := 5) (Lg.methA (h := h1) (Lg.ixL (n := 1) (Lg.var (n := 0) rfl) (Lg.var (n := 4) rfl) rfl) .here (fun _ _ _ _ => by kernel_rfl) (Lg.cons_ Lg.cInt Lg.nil_) ⟨p1, cs, _, h1, 5, _, rfl, z.1, rfl, rfl, rfl⟩) ?_
          rcases A40.half_cases f2 with ⟨q, rfl, rfl, rfl⟩ | ⟨i, kd, o1, q, har, rfl, hdp⟩
          · rw [q] at hs
            have hs : M.hsends h1 5 = (h1, []) := hs
            rw [hs]
            refine Lg.g_when1 (Lg.tst (Lg.neLi (Lg.var (n := 5) rfl) (Lg.listI Lg.nilI (by decide)))) (fun hc => ?_) (fun hc => ?_)
            · simp at hc
            · exact Lg.g_sw (Lg.g_closeN P (Lg.g_post rfl ⟨_, _, by rw [Bool.and_true]; rfl, rfl⟩))
          · rw [q] at hs
            obtain ⟨h', row, hs1, hne, hrow, R', hi, hl', hf'⟩ := hs
            rw [hs1]
            refine Lg.g_when1 (Lg.tst (Lg.neLi (Lg.var (n := 5) rfl) (Lg.listI Lg.nilI (by decide)))) (fun hc => ?_) (fun hc => absurd (by simpa using hc) hne)
            refine Lg.g_asg (ii := 3) Lg.cBl ?_
            refine Lg.g_sw ?_
            refine Lg.g_arr0 ok P.at0 (by have := P.l1; omega) hrow har (Lg.ixL (n := 0) (Lg.var (n := 0) rfl) (Lg.is_ (Lg.iI Lg.cInt (Lg.var (n := 4) rfl)) (show _ = Lg.Da.int ((0 : Nat) : Int) from congrArg Lg.Da.int (by decide))) rfl) (Lg.cons_ (Lg.var (n := 5) rfl) (Lg.cons_ Lg.cInt Lg.nil_)) (fun as1 h0' P' => ?_)
            refine Lg.g_when1 (Lg.isT (Lg.tst (Lg.eqI (Lg.iC (by decide) (Lg.iI (Lg.var (n := 1) rfl) (Lg.var (n := 2) rfl)) Lg.cInt) Lg.cInt)) hdup) (fun hd => ?_) (fun hd => ?_)
            · have hdd : A40.arr true b o1 i kd = some c0 := by rw [hd] at hdp; exact hdp
              refine Lg.g_arr01 ok P' (by have := P.l1; omega) hrow hdd (Lg.ixL (n := 0) (Lg.var (n := 0) rfl) (Lg.is_ (Lg.iI Lg.cInt (Lg.var (n := 4) rfl)) (show _ = Lg.Da.int ((0 : Nat) : Int) from congrArg Lg.Da.int (by decide))) rfl) (Lg.cons_ (Lg.var (n := 5) rfl) (Lg.cons_ Lg.cInt Lg.nil_)) (fun as2 h0'' P'' => ?_)
              exact Lg.g_closeN (P''.net (hl'.trans P.l1) R') (Lg.g_post rfl ⟨_, _, by rw [Bool.and_false]; rfl, rfl⟩)
            · have hdd : c0 = o1 := by rw [hd] at hdp; exact hdp
              subst hdd
              exact Lg.g_closeN (P'.net (hl'.trans P.l1) R') (Lg.g_post rfl ⟨_, _, by rw [Bool.and_false]; rfl, rfl⟩)
      rintro ds q ⟨jv, rv, rfl, rfl⟩
      show Lg.G _ _ _ _ ([some (.list [.ref p0, .ref p1]), some (.int nu), some (.int (k : Int)), some (.bl (s0 && s1)), jv, rv]) (Lg.netR K p0 p1 N cs pre c0 c1 :: r)
      refine Lg.g_when1 (Lg.truB (Lg.var (n := 3) rfl)) (fun hc => ?_) (fun hc => ?_)
      · rw [if_pos hc] at f3
        obtain ⟨rfl, rfl⟩ := Prod.mk.inj f3
        exact Lg.g_ret Lg.cBl rfl k0
      · rw [if_neg (by rw [hc]; decide)] at f3
        exact Lg.g_post rfl ⟨_, _, _, _, _, _, f3, rfl, rfl⟩
    rintro ds q ⟨x0, x1, kv, sv, jv, rv, hfl, rfl, rfl⟩
    cases hfl
end
end Pr

namespace Pr
open PySem PySem.Spec PyProof.Rows L2 Evl Wr
abbrev hk2 : PySem.W.Hook := hookY fa fn ex
def ob2 (s : PySem.W.SharedT) : He.AlX := obsY fa fn ex (HandSHeadRun.getT s)
theorem ob2_eq (s : PySem.W.SharedT) : ob2 s = hk2.obs s.abs := obsY_eq (HandSHeadRun.getT_eq s)
theorem run3a (w : World) : Run3 R (obB fa fn ex) true 6000 w := by
  intro os
  kernel_rfl
theorem run3b (w : World) : Run3 R (obL fn) (fn.map He.DefD.val) 6000 w := by
  intro os
  kernel_rfl
theorem run3 (w : World) : Run3 R ob2 (hk2.val w) 6000 w := run3_of (run3a w) (run3b w)
theorem run1 (w : World) : Run1 R 6000 w := by
  intro os
  kernel_rfl
theorem run2 (w : World) : Run2 R (PySem.W.view R.prog [103]) loose 6000 w := by
  intro os
  kernel_rfl
theorem run (w : World) : HandSHeadRun.RunEq R (PySem.W.view R.prog [103]) hk2 ob2 6000 loose w := runEq_of (run1 w) (run2 w) (run3 w)
end Pr

set_option maxHeartbeats 16000000
namespace Pr
open PySem PySem.Spec PyProof.Rows L2 Evl Wr
section
variable {P : Program} {w : World} {K : PySem.W.Frag} {mg : Str → Option Value} {base : Heap}
theorem sc_law : FnScope ["_law_script", "_law_hosts", "_law_ports", "_law_port", "_law_callers", "_law_k", "_law_pairs", "_law_mine", "_law_goal", "_law_one", "_law_end"] ["_law_script"] (defScope s_law) := ⟨rfl, rfl, rfl, by decide +kernel, rfl, by decide +kernel, by decide +kernel⟩
def spLaw (K : PySem.W.Frag) : Sp := fun vs H Q _ => ∃ (a : Addr) (ns : List Int), vs = [.ref a] ∧ SqL K H a (ns.map V.int) ∧ ns.length ≤ 63 ∧ ∀ H', Q (.bl true) H'
theorem law_ok {f : Addr} (T : Tx fa fn ex w K mg) (hfa : mg ("law" : Str) = some (.ref f)) : ∃ fd : FuncData, (∀ (s : Shared) (v : Value), BindsTo s fd ⟨[v], []⟩ [("_law_script", v)]) ∧ ∀ base : Heap, K.In base → base.Ns mainGlobals mg → FnOk P w K mg base CX0 10 f fd ["_law_script"] (spLaw K) := by
  refine law_mk T 69 97 rfl rfl sc_law (fun kV doc pm an cdv ct us hl => match us, hl with | [_], _ => rfl) hfa (fun vs H Q E h => ?_) (fun base f cdv A outer s H vs Q E0 hr h => ?_)
  · obtain ⟨a, ns, rfl, _⟩ := h
    rfl
  · obtain ⟨a, ns, rfl, hS, hlen, k⟩ := h
    refine ⟨_, PSs.nox (pss_cons (ps_set (i := 1) sc_law.nd rfl (Or.inl rfl) (pe_lst (pa_cons (C8.pe_mk (m_Host_init T) hr (by decide) rfl (pa_cons (pe_df (d_mix T) (hr.mono (by decide)) (pa_cons (pv 0) (pa_cons pe_int pa_nil))) pa_nil)) (pa_cons (C8.pe_mk (m_Host_init T) hr (by decide) rfl (pa_cons (pe_op op_sub (pe_op op_sub pe_int pe_int) (pe_op op_mod (pe_df (d_mix T) (hr.mono (by decide)) (pa_cons (pv 0) (pa_cons pe_int pa_nil))) pe_int)) pa_nil)) pa_nil))))
      (pss_cons (ps_set (i := 2) sc_law.nd rfl (Or.inl rfl) (pe_lst (pa_cons (pe_op op_mod (pe_df (d_mix T) (hr.mono (by decide)) (pa_cons (pv 0) (pa_cons pe_int pa_nil))) pe_int) (pa_cons (pe_op op_add pe_int (pe_op op_mod (pe_df (d_mix T) (hr.mono (by decide)) (pa_cons (pv 0) (pa_cons pe_int pa_nil))) pe_int)) pa_nil))))
      (pss_cons (ps_for PassesOwn.never rfl (pi_list (pv 2)) (pg_name (i := 3) sc_law.nd rfl (Or.inr rfl)) (pss_one (ps_if (PW.pt (pw_or (pt_cmpR op_notN (pe_mtX (m_Host_listens T) hr (by decide) takes0 (pe_ix ix_list (pv 1) pe_int (fun _ _ => rfl)) (pa_cons (pv 3) pa_nil)) pe_non (nomark _)) (pw_or1 (pt_cmpR op_notN (pe_mtX (m_Host_taken T) hr (by decide) takes0 (pe_ix ix_list (pv 1) pe_int (fun _ _ => rfl)) (pa_cons (pv 3) pa_nil)) pe_non (nomark _))))) (pss_one (ps_ret pe_bl)) pss_nil)))
      (pss_cons (ps_set (i := 4) sc_law.nd rfl (Or.inl rfl) (pe_lst pa_nil))
      (pss_cons (ps_for PassesOwn.never rfl (pi_range1 rfl (T.free 9) (pa_cons (pe_op op_add pe_int (pe_op op_mod (pe_df (d_mix T) (hr.mono (by decide)) (pa_cons (pv 0) (pa_cons pe_int pa_nil))) pe_int)) pa_nil)) (pg_name (i := 5) sc_law.nd rfl (Or.inl rfl)) (pss_cons (ps_set (i := 7) sc_law.nd rfl (Or.inl rfl) (pe_op op_add (pe_op op_mul pe_int (pv 5)) (pe_op op_mod (pe_df (d_mix T) (hr.mono (by decide)) (pa_cons (pv 0) (pa_cons (pe_op op_add pe_int (pv 5)) pa_nil))) pe_int)))
      (pss_cons (ps_set (i := 8) sc_law.nd rfl (Or.inl rfl) (pe_ix ix_list (pv 2) (pe_op op_mod (pe_df (d_mix T) (hr.mono (by decide)) (pa_cons (pv 0) (pa_cons (pe_op op_add pe_int (pv 5)) pa_nil))) pe_int) (fun _ _ => rfl)))
      (pss_one (ps_expr (pe_bm PySem.F.plainAttrs_list PySem.F.slot_list_append PySem.F.type_list_append mt_append (pv 4) (pa_cons (pe_tup (pa_cons (pe_mtX (m_Host_calls T) hr (by decide) takes0 (pe_ix ix_list (pv 1) pe_int (fun _ _ => rfl)) (pa_cons (pv 7) (pa_cons (pv 8) pa_nil))) (pa_cons (pv 8) pa_nil))) pa_nil)))))))
      (pss_cons (ps_if (pt_not (pt_val (pe_df (d_lflow T) (hr.mono (by decide)) (pa_cons (pv 1) (pa_cons (pe_df (d_mix T) (hr.mono (by decide)) (pa_cons (pv 0) (pa_cons pe_int pa_nil))) pa_nil))))) (pss_one (ps_ret pe_bl)) pss_nil)
      (pss_cons (ps_set (i := 6) sc_law.nd rfl (Or.inl rfl) (pe_lst pa_nil))
      (pss_cons (ps_for PassesOwn.never rfl (pi_list (pv 2)) (pg_name (i := 3) sc_law.nd rfl (Or.inr rfl)) (pss_cons (ps_for PassesOwn.never rfl (pi_list (pe_lc (own := [("_law_one", 9)]) (g := gName 9) rfl sc_law.nd (pi_list (pv 4)) (blkOk_by (own := [("_law_one", 9)]) (N := ["_law_script", "_law_hosts", "_law_ports", "_law_port", "_law_callers", "_law_k", "_law_pairs", "_law_mine", "_law_goal", "_law_one", "_law_end"]) (sc := defScope s_law) (by decide +kernel)) (fun _ _ _ _ _ => pg_name (i := 9) sc_law.nd rfl (Or.inl rfl)) (fun _ _ _ _ _ => (pts_one (pt_cmpR op_eq (pe_ix (ix_tupK (K := K) rfl) (pv 9) pe_int (fun _ _ => rfl)) (pv 3) (nomark _)))) (fun _ _ _ _ _ => (pv 9)))) (pg_name (i := 9) sc_law.nd rfl (Or.inl rfl)) (pss_cons (ps_set (i := 10) sc_law.nd rfl (Or.inl rfl) (pe_mtX (m_Host_taken T) hr (by decide) takes0 (pe_ix ix_list (pv 1) pe_int (fun _ _ => rfl)) (pa_cons (pv 3) pa_nil)))
      (pss_cons (ps_if (PW.pt (pw_or (pt_cmpR op_isN (pv 10) pe_non (nomark _)) (pw_or (pt_cmpR op_ne (pe_df (d_state T) (hr.mono (by decide)) (pa_cons (pv 10) pa_nil)) pe_str (nomark _)) (pw_or1 (pt_cmpR op_ne (pe_df (d_state T) (hr.mono (by decide)) (pa_cons (pe_ix ix_tup (pv 9) pe_int (fun _ _ => rfl)) pa_nil)) pe_str (nomark _)))))) (pss_one (ps_ret pe_bl)) pss_nil)
      (pss_one (ps_expr (pe_bm PySem.F.plainAttrs_list PySem.F.slot_list_append PySem.F.type_list_append mt_append (pv 6) (pa_cons (pe_tup (pa_cons (pe_ix ix_tup (pv 9) pe_int (fun _ _ => rfl)) (pa_cons (pv 10) pa_nil))) pa_nil)))))))
      (pss_one (ps_if (pt_cmpR op_notN (pe_mtX (m_Host_taken T) hr (by decide) takes0 (pe_ix ix_list (pv 1) pe_int (fun _ _ => rfl)) (pa_cons (pv 3) pa_nil)) pe_non (nomark _)) (pss_one (ps_ret pe_bl)) pss_nil))))
      (pss_cons (ps_for PassesOwn.never rfl (pi_range1 rfl (T.free 9) (pa_cons (pe_callB call_len_seq (by rfl) (T.free 10) PySem.boot_len (pa_cons (pv 6) pa_nil)) pa_nil)) (pg_name (i := 5) sc_law.nd rfl (Or.inl rfl)) (pss_cons (ps_expr (pe_df (d_write T) (hr.mono (by decide)) (pa_cons (pe_ix ix_tup (pe_ix ix_list (pv 6) (pv 5) (fun _ _ => rfl)) pe_int (fun _ _ => rfl)) (pa_cons (pe_op op_rep (pe_lst (pa_cons (pv 5) pa_nil)) (pe_op op_add pe_int (pe_op op_mod (pe_df (d_mix T) (hr.mono (by decide)) (pa_cons (pv 0) (pa_cons (pe_op op_add pe_int (pv 5)) pa_nil))) pe_int))) pa_nil))))
      (pss_one (ps_expr (pe_df (d_write T) (hr.mono (by decide)) (pa_cons (pe_ix ix_tup (pe_ix ix_list (pv 6) (pv 5) (fun _ _ => rfl)) pe_int (fun _ _ => rfl)) (pa_cons (pe_op op_rep (pe_lst (pa_cons (pe_op op_add pe_int (pv 5)) pa_nil)) (pe_op op_add pe_int (pe_op op_mod (pe_df (d_mix T) (hr.mono (by decide)) (pa_cons (pv 0) (pa_cons (pe_op op_add pe_int (pv 5)) pa_nil))) pe_int))) pa_nil)))))))
      (pss_cons (ps_if (pt_not (pt_val (pe_df (d_lflow T) (hr.mono (by decide)) (pa_cons (pv 1) (pa_cons (pe_df (d_mix T) (hr.mono (by decide)) (pa_cons (pv 0) (pa_cons pe_int pa_nil))) pa_nil))))) (pss_one (ps_ret pe_bl)) pss_nil)
      (pss_cons (ps_for PassesOwn.never rfl (pi_range1 rfl (T.free 9) (pa_cons (pe_callB call_len_seq (by rfl) (T.free 10) PySem.boot_len (pa_cons (pv 6) pa_nil)) pa_nil)) (pg_name (i := 5) sc_law.nd rfl (Or.inl rfl)) (pss_cons (ps_if (pt_cmpR (op_neD hr.units) (pe_df (d_read T) (hr.mono (by decide)) (pa_cons (pe_ix ix_tup (pe_ix ix_list (pv 6) (pv 5) (fun _ _ => rfl)) pe_int (fun _ _ => rfl)) (pa_cons pe_int pa_nil))) (pe_op op_rep (pe_lst (pa_cons (pv 5) pa_nil)) (pe_op op_add pe_int (pe_op op_mod (pe_df (d_mix T) (hr.mono (by decide)) (pa_cons (pv 0) (pa_cons (pe_op op_add pe_int (pv 5)) pa_nil))) pe_int))) (nomark _)) (pss_one (ps_ret pe_bl)) pss_nil)
      (pss_one (ps_if (pt_cmpR (op_neD hr.units) (pe_df (d_read T) (hr.mono (by decide)) (pa_cons (pe_ix ix_tup (pe_ix ix_list (pv 6) (pv 5) (fun _ _ => rfl)) pe_int (fun _ _ => rfl)) (pa_cons pe_int pa_nil))) (pe_op op_rep (pe_lst (pa_cons (pe_op op_add pe_int (pv 5)) pa_nil)) (pe_op op_add pe_int (pe_op op_mod (pe_df (d_mix T) (hr.mono (by decide)) (pa_cons (pv 0) (pa_cons (pe_op op_add pe_int (pv 5)) pa_nil))) pe_int))) (nomark _)) (pss_one (ps_ret pe_bl)) pss_nil))))
      (pss_one (ps_ret pe_bl))))))))))))), ?_⟩
    refine Lg.law_in hS k (fun kk => ?_)
    have EF := EFT T
    have HF := HFT T
    obtain ⟨f0, hf0⟩ : ∃ f, f = M.mix ns 0 := ⟨_, rfl⟩
    obtain ⟨f1, hf1⟩ : ∃ f, f = 4294967296 - 1 - M.mix ns 1 % 100000 := ⟨_, rfl⟩
    have rf0 : 0 ≤ f0 ∧ f0 ≤ 4294967295 := by have := M.mix_lo ns 0; have := M.mix_hi ns 0; omega
    have rf1 : 0 ≤ f1 ∧ f1 ≤ 4294967295 := by omega
    refine Lg.g_lstX2 (ii := 1) (Lg.mkX (g := fun x => [Lg.hostA K x [] [] (M.hnew f0)]) (Lg.cons_ (Lg.is_ (Lg.c_mix (Lg.cons_ (Lg.var (n := 0) rfl) (Lg.cons_ Lg.cInt Lg.nil_))) (congrArg Lg.Da.int hf0.symm)) Lg.nil_) (fun x => ⟨x, _, _, rfl, rfl, rfl, rfl⟩)) (fun p0 => Lg.mkX (g := fun x => [Lg.hostA K x [] [] (M.hnew f1), Lg.hostA K p0 [] [] (M.hnew f0)]) (Lg.cons_ (Lg.is_ (Lg.iI (Lg.iI Lg.cInt Lg.cInt) (Lg.iC (by decide) (Lg.c_mix (Lg.cons_ (Lg.var (n := 0) rfl) (Lg.cons_ Lg.cInt Lg.nil_))) Lg.cInt)) (congrArg Lg.Da.int hf1.symm)) Lg.nil_) (fun x => ⟨x, _, _, rfl, rfl, rfl, rfl⟩)) (fun p0 p1 q => ?_)
    refine Lg.g_freeze (ii := 1) rfl ?_
    refine Lg.g_sw ?_
    obtain ⟨pa, hpa⟩ : ∃ p, p = M.mix ns 2 % 30000 := ⟨_, rfl⟩
    obtain ⟨pb, hpb⟩ : ∃ p, p = 30000 + M.mix ns 3 % 30000 := ⟨_, rfl⟩
    have hab : pa ≠ pb := by omega
    refine Lg.g_asg (ii := 2) (Lg.is_ (Lg.listI (Lg.consI (Lg.iC (by decide) (Lg.c_mix (Lg.cons_ (Lg.var (n := 0) rfl) (Lg.cons_ Lg.cInt Lg.nil_))) Lg.cInt) (Lg.consI (Lg.iI Lg.cInt (Lg.iC (by decide) (Lg.c_mix (Lg.cons_ (Lg.var (n := 0) rfl) (Lg.cons_ Lg.cInt Lg.nil_))) Lg.cInt)) Lg.nilI)) (sz rfl)) (show _ = Lg.li [pa, pb] by rw [hpa, hpb])) ?_
    refine Lg.g_ds (ds' := [_, _, _, _, _, _, _, _, _, _, _]) rfl ?_
    refine Lg.g_forL (ii := 3) (Lg.var (n := 2) rfl) (fun j ds q => ∃ pv : Option Lg.Da, ds = [some (.scr ns), some (.list [.ref p0, .ref p1]), some (Lg.li [pa, pb]), pv, none, none, none, none, none, none, none] ∧ q = [Lg.hostA K p0 [] (([(pa, []), (pb, [])] : List (Int × List PySem.Addr)).take j) (M.hnew f0), Lg.hostA K p1 [] [] (M.hnew f1)]) ⟨_, rfl, rfl⟩ ?_ ?_
    · rintro F1 j x ds q hF hx ⟨pv, rfl, rfl⟩
      match j, hx with
      | 0, hx =>
        obtain rfl := Option.some.inj hx
        refine Lg.g_or1 (Lg.tst (Lg.notNon (Lg.evX_ev (Lg.methAX (h := M.hnew f0) (Lg.ixL (n := 0) (Lg.var (n := 1) rfl) Lg.cInt rfl) .here (fun _ _ _ _ => by kernel_rfl) (Lg.cons_ (Lg.var (n := 3) rfl) Lg.nil_) ⟨p0, [], [], M.hnew f0, pa, _, rfl, rfl, rfl, Nat.zero_le _, rfl, rfl⟩) (fun _ _ _ o => o)) (b := true) (fun F v dv => by rw [show v = _ from dv]; first | rfl | exact decide_eq_false (fun z => by cases z)))) rfl ?_
        refine Lg.g_no1 (Lg.tst (Lg.notNon (Lg.evX_ev (Lg.methAX (h := M.hnew f0) (Lg.ixL (n := 0) (Lg.var (n := 1) rfl) Lg.cInt rfl) .here (fun _ _ _ _ => by kernel_rfl) (Lg.cons_ (Lg.var (n := 3) rfl) Lg.nil_) ⟨p0, [], [(pa, [])], M.hnew f0, pa, _, rfl, rfl, .inl ⟨List.lookup_cons_self, rfl, rfl⟩⟩) (fun _ _ _ o => o)) (b := true) (fun F v dv => by rw [show v = _ from dv]; first | rfl | exact decide_eq_false (fun z => by cases z)))) rfl ?_
        exact Lg.g_post rfl ⟨_, rfl, rfl⟩
      | 1, hx =>
        obtain rfl := Option.some.inj hx
        refine Lg.g_or1 (Lg.tst (Lg.notNon (Lg.evX_ev (Lg.methAX (h := M.hnew f0) (Lg.ixL (n := 0) (Lg.var (n := 1) rfl) Lg.cInt rfl) .here (fun _ _ _ _ => by kernel_rfl) (Lg.cons_ (Lg.var (n := 3) rfl) Lg.nil_) ⟨p0, [], [(pa, [])], M.hnew f0, pb, _, rfl, rfl, (by rw [M.look41, if_neg (fun z : pb = pa => hab z.symm)]), by show 1 ≤ 1000; decide, rfl, rfl⟩) (fun _ _ _ o => o)) (b := true) (fun F v dv => by rw [show v = _ from dv]; first | rfl | exact decide_eq_false (fun z => by cases z)))) rfl ?_
        refine Lg.g_no1 (Lg.tst (Lg.notNon (Lg.evX_ev (Lg.methAX (h := M.hnew f0) (Lg.ixL (n := 0) (Lg.var (n := 1) rfl) Lg.cInt rfl) .here (fun _ _ _ _ => by kernel_rfl) (Lg.cons_ (Lg.var (n := 3) rfl) Lg.nil_) ⟨p0, [], [(pa, []), (pb, [])], M.hnew f0, pb, _, rfl, rfl, .inl ⟨(Lg.look2 hab).2, rfl, rfl⟩⟩) (fun _ _ _ o => o)) (b := true) (fun F v dv => by rw [show v = _ from dv]; first | rfl | exact decide_eq_false (fun z => by cases z)))) rfl ?_
        exact Lg.g_post rfl ⟨_, rfl, rfl⟩
      | j + 2, hx => simp at hx
    rintro ds q ⟨pv, rfl, rfl⟩
    show Lg.G _ _ _ _ _ [Lg.hostA K p0 [] [(pa, []), (pb, [])] (M.hnew f0), Lg.hostA K p1 [] [] (M.hnew f1)]
    refine Lg.g_own (ii := 4) (Lg.listN Lg.nil_ (by decide)) (fun cp => ?_)
    refine Lg.g_perm (List.perm_middle (l₁ := [Lg.ol K cp [], Lg.hostA K p0 [] [(pa, []), (pb, [])] (M.hnew f0)]) (l₂ := []) (a := Lg.hostA K p1 [] [] (M.hnew f1))) ?_
    obtain ⟨n, hn, hn1, hn4⟩ : ∃ n : Nat, 1 + M.mix ns 4 % 4 = (n : Int) ∧ 1 ≤ n ∧ n ≤ 4 := ⟨(1 + M.mix ns 4 % 4).toNat, by omega, by omega, by omega⟩
    obtain ⟨mine, hmine⟩ : ∃ f : Nat → Int, ∀ i, f i = 100 * (i : Int) + M.mix ns (5 + (i : Int)) % 100 := ⟨_, fun _ => rfl⟩
    obtain ⟨goal, hgoal⟩ : ∃ f : Nat → Int, ∀ i, f i = ([pa, pb] : List Int).getD (M.mix ns (10 + (i : Int)) % 2).toNat 0 := ⟨_, fun _ => rfl⟩
    have hmi : ∀ a b, mine a = mine b → a = b := fun a b h => by rw [hmine, hmine] at h; omega
    have hg : ∀ i, goal i = pa ∨ goal i = pb := fun i => by
      rw [hgoal]
      have : M.mix ns (10 + (i : Int)) % 2 = 0 ∨ M.mix ns (10 + (i : Int)) % 2 = 1 := by omega
      rcases this with h | h <;> rw [h]
      · exact .inl rfl
      · exact .inr rfl
    have rm : ∀ i, i < n → 0 ≤ mine i ∧ mine i ≤ 65535 := fun i hi => by rw [hmine]; omega
    have rgo : ∀ i, 0 ≤ goal i ∧ goal i ≤ 65535 := fun i => by rcases hg i with h | h <;> rw [h] <;> omega
    refine Lg.g_ds (ds' := [_, _, _, _, _, _, _, _, _, _, _]) rfl ?_
    refine Lg.g_forR1 (ii := 5) (Lg.cons_ (Lg.is_ (Lg.iI Lg.cInt (Lg.iC (by decide) (Lg.c_mix (Lg.cons_ (Lg.var (n := 0) rfl) (Lg.cons_ Lg.cInt Lg.nil_))) Lg.cInt)) (congrArg Lg.Da.int hn)) Lg.nil_) ⟨by omega, by omega⟩ (fun i ds q => ∃ (cs : List PySem.Addr) (kv mv gv : Option Lg.Da), cs.length = i ∧ ds = [some (.scr ns), some (.list [.ref p0, .ref p1]), some (Lg.li [pa, pb]), pv, some (.ref cp), kv, none, mv, gv, none, none] ∧ q = [Lg.hostA K p1 cs [] (M.hC mine goal f1 i), Lg.ol K cp (Lg.clist goal cs), Lg.hostA K p0 [] [(pa, []), (pb, [])] (M.hnew f0)]) ⟨[], _, _, _, rfl, rfl, rfl⟩ ?_ ?_
    · rintro i ds q hi ⟨cs, kv, mv, gv, hcs, rfl, rfl⟩
      refine Lg.g_asg (ii := 7) (Lg.is_ (Lg.iI (Lg.iC (.inl ⟨by decide, by decide⟩) Lg.cInt (Lg.var (n := 5) rfl)) (Lg.iC (by decide) (Lg.c_mix (Lg.cons_ (Lg.var (n := 0) rfl) (Lg.cons_ (Lg.iI Lg.cInt (Lg.var (n := 5) rfl)) Lg.nil_))) Lg.cInt)) (congrArg Lg.Da.int (hmine i).symm)) ?_
      refine Lg.g_asg (ii := 8) (Lg.is_ (Lg.ixLi (Lg.var (n := 2) rfl) (Lg.iC (by decide) (Lg.c_mix (Lg.cons_ (Lg.var (n := 0) rfl) (Lg.cons_ (Lg.iI Lg.cInt (Lg.var (n := 5) rfl)) Lg.nil_))) Lg.cInt) ⟨by omega, by show _ < (2 : Int); omega⟩) (congrArg Lg.Da.int (hgoal i).symm)) ?_
      refine Lg.g_ds (ds' := [_, _, _, _, _, _, _, _, _, _, _]) rfl ?_
      refine Lg.g_appX1 (Lg.var (n := 4) rfl) (.there .here) (Lg.tupX2 (Lg.methAX (h := M.hC mine goal f1 i) (Lg.ixL (n := 1) (Lg.var (n := 1) rfl) Lg.cInt rfl) .here (fun _ _ _ _ => by kernel_rfl) (Lg.cons_ (Lg.var (n := 7) rfl) (Lg.cons_ (Lg.var (n := 8) rfl) Lg.nil_)) ⟨p1, cs, [], _, mine i, goal i, _, rfl, by rw [M.hC_len]; omega, M.hC_free hmi, rfl, rfl, rfl⟩) (fun a => (Lg.var (n := 8) rfl))) (fun a => .there .here) (by rw [Lg.clist_len]; omega) (fun a => ?_)
      exact Lg.g_post rfl ⟨cs ++ [a], _, _, _, by rw [List.length_append, hcs]; rfl, rfl, by rw [Lg.clist_snoc, hcs]; rfl⟩
    rintro ds q ⟨cs, kv, mv, gv, hcs, rfl, rfl⟩
    rw [Int.toNat_natCast] at hcs
    rw [Int.toNat_natCast]
    refine Lg.g_sw ?_
    refine Lg.g_freeze (ii := 4) rfl ?_
    refine Lg.g_sw ?_
    obtain ⟨S1, hS1⟩ : ∃ S : Nat → M.Sd, S = fun i => ⟨mine i, goal i, M.gs f1 i, M.gs f0 i, [], []⟩ := ⟨_, rfl⟩
    have ok1 : Lg.NtOk ⟨n, S1, Lg.qs40 goal pa pb, f0⟩ false [] := ⟨hn4, ⟨fun i hi => by rw [hS1]; exact ⟨rm i hi, rgo i, M.gs_rg rf1, M.gs_rg rf0, Nat.zero_le _, Nat.zero_le _, M.by_nil, M.by_nil⟩, fun i hi => by rw [hS1]; rfl, fun i hi => by rw [hS1]; rfl, fun i j _ _ h _ => by rw [hS1] at h; exact hmi i j h⟩,
      fun as hl => Lg.hz2 (Nat.le_trans Lg.sel_len (by have : as.length ≤ n := hl; omega)) (Nat.le_trans Lg.sel_len (by have : as.length ≤ n := hl; omega)), fun as q _ _ => by
        have z := Lg.qs_add (q := q) (as := as) hab (hg as.length)
        rw [hS1]
        exact ⟨z.1, z.2, rfl, rfl⟩⟩
    have P1 : Lg.NetP ⟨n, S1, Lg.qs40 goal pa pb, f0⟩ [] [] (M.hnew f0) (M.hC mine goal f1 n) ⟨0, []⟩ (A40.init n) := ⟨⟨[], rfl⟩, rfl, Nat.zero_le _, List.length_replicate, ⟨rfl, rfl, (fun i x hx => by cases hx), ⟨f0, rfl⟩⟩, M.hC_rel fun i hi => by rw [hS1]; exact ⟨rfl, rfl, rfl, rfl⟩, rfl⟩
    obtain ⟨a0, a1, fl1, l0, l1, r0, r1, pl2⟩ := A40.plays (n := n) (d := (M.mix ns 15 % 4).toNat) hn1 hn4 (by omega)
    refine Lg.g_closeN (N := ⟨n, S1, Lg.qs40 goal pa pb, f0⟩) (pre := []) (as := []) P1 ?_
    refine Lg.g_ds (ds' := [_, _, _, _, _, _, _, _, _, _, _]) rfl ?_
    refine Lg.g_no (Lg.tNot_ (Lg.tstB (Lg.call (Lg.cons_ (Lg.var (n := 1) rfl) (Lg.cons_ (Lg.c_mix (Lg.cons_ (Lg.var (n := 0) rfl) (Lg.cons_ Lg.cInt Lg.nil_))) Lg.nil_)) ⟨p0, p1, ⟨n, S1, Lg.qs40 goal pa pb, f0⟩, false, cs, [], _, _, a0, a1, _, [], rfl, ok1, hcs, M.mix_lo _ _, fl1, rfl, rfl, rfl⟩))) rfl ?_
    refine Lg.g_openN (fun as h0 h1 P => ?_)
    have las : as.length = n := P.len.trans l0
    have hgA : ∀ {l : List PySem.Addr}, l.length = n → ∀ i, i < n → l[i]? = some (l.getD i 0) := fun {l} hl i hi => by
      rw [List.getD_eq_getElem?_getD, List.getElem?_eq_getElem (by omega)]
      rfl
    have hasA := hgA las
    have hcsA := hgA hcs
    have hrd0 : ∀ i, i < n → ∃ e, h0.ends[i]? = some e ∧ e.state = .opn := fun i hi => by
      have hx : a0.l[i]? = some a0.l[i] := List.getElem?_eq_getElem (by omega)
      obtain ⟨e, q1, q2⟩ := P.R0.en i _ hx
      exact ⟨e, q1, M.rdy_open (r0 _ (List.mem_of_getElem? hx)) q2⟩
    have hrd1 : ∀ i, i < n → ∃ e, h1.ends[i]? = some e ∧ e.state = .opn := fun i hi => by
      have hx : a1.l[i]? = some a1.l[i] := List.getElem?_eq_getElem (by omega)
      obtain ⟨e, q1, q2⟩ := P.R1.en i _ hx
      exact ⟨e, q1, M.rdy_open (r1 _ (List.mem_of_getElem? hx)) q2⟩
    have hq0 : Lg.qs40 goal pa pb as = [(pa, (M.idx goal n pa).map (fun i => as.getD i 0)), (pb, (M.idx goal n pb).map (fun i => as.getD i 0))] := by
      unfold Lg.qs40 Lg.sel
      rw [las]
    show Lg.G _ _ _ _ _ [Lg.hostA K p0 as (Lg.qs40 goal pa pb as) h0, Lg.hostA K p1 cs [] h1]
    rw [hq0]
    refine Lg.g_own (ii := 6) (Lg.listN Lg.nil_ (by decide)) (fun pp => ?_)
    refine Lg.g_sw ?_
    refine Lg.g_sw3 ?_
    refine Lg.g_ds (ds' := [_, _, _, _, _, _, _, _, _, _, _]) rfl ?_
    refine Lg.g_forL (ii := 3) (Lg.var (n := 2) rfl) (fun t ds q => ∃ pv ov ev : Option Lg.Da, ds = [some (.scr ns), some (.list [.ref p0, .ref p1]), some (Lg.li [pa, pb]), pv, some (.list (Lg.clist goal cs)), kv, some (.ref pp), mv, gv, ov, ev] ∧ q = [Lg.hostA K p0 as (([[(pa, (M.idx goal n pa).map (fun i => as.getD i 0)), (pb, (M.idx goal n pb).map (fun i => as.getD i 0))], [(pa, []), (pb, (M.idx goal n pb).map (fun i => as.getD i 0))], [(pa, []), (pb, [])]] : List (List (Int × List PySem.Addr))).getD t []) h0, Lg.hostA K p1 cs [] h1, Lg.ol K pp (Lg.prs cs as (([[], M.idx goal n pa, M.ord goal n pa pb] : List (List Nat)).getD t []))]) ⟨_, _, _, rfl, rfl⟩ ?_ ?_
    · rintro F1 j x ds q hF hx ⟨pv, ov, ev, rfl, rfl⟩
      match j, hx with
      | 0, hx =>
        obtain rfl := Option.some.inj hx
        refine Lg.g_forL (ii := 9) (Lg.is_ (Lg.lcL (Lg.pD pa) (fun x => x) (Lg.var (n := 4) rfl) (by rw [Lg.clist_len]; omega) (fun x Dl acc hx => by
          obtain ⟨i, _, rfl⟩ := List.mem_map.mp hx
          exact (Lg.tst (Lg.eqI (Lg.ixT (n := 1) (Lg.var (n := 9) rfl) Lg.cInt rfl) (Lg.var (n := 3) rfl)))) (fun x Dl acc hx hp => (Lg.var (n := 9) rfl))) (congrArg Lg.Da.list (show _ = (M.idx goal n pa).map (Lg.one40 goal cs) by rw [Lg.clist_filter, hcs]))) (fun m ds q => ∃ ov ev : Option Lg.Da, ds = [some (.scr ns), some (.list [.ref p0, .ref p1]), some (Lg.li [pa, pb]), some (.int pa), some (.list (Lg.clist goal cs)), kv, some (.ref pp), mv, gv, ov, ev] ∧ q = [Lg.hostA K p0 as [(pa, ((M.idx goal n pa).drop m).map (fun i => as.getD i 0)), (pb, (M.idx goal n pb).map (fun i => as.getD i 0))] h0, Lg.hostA K p1 cs [] h1, Lg.ol K pp (Lg.prs cs as (([] : List Nat) ++ (M.idx goal n pa).take m))]) ⟨_, _, rfl, by rw [List.take_zero, List.append_nil, List.drop_zero]; rfl⟩ ?_ ?_
        · rintro F2 m x ds q hF2 hx ⟨ov, ev, rfl, rfl⟩
          obtain ⟨i, hi, rfl⟩ : ∃ i, (M.idx goal n pa)[m]? = some i ∧ Lg.one40 goal cs i = x := by
            rw [List.getElem?_map] at hx
            exact Option.map_eq_some_iff.mp hx
          have hin : i < n := (M.idx_mem.mp (List.mem_of_getElem? hi)).1
          obtain ⟨hml, hme⟩ := List.getElem?_eq_some_iff.mp hi
          have hdrop : (M.idx goal n pa).drop m = i :: (M.idx goal n pa).drop (m + 1) := by rw [List.drop_eq_getElem_cons hml, hme]
          obtain ⟨e0, he0, hs0⟩ := hrd0 i hin
          obtain ⟨e1, he1, hs1⟩ := hrd1 i hin
          have hlk : ([(pa, ((M.idx goal n pa).drop m).map (fun i => as.getD i 0)), (pb, (M.idx goal n pb).map (fun i => as.getD i 0))] : List (Int × List PySem.Addr)).lookup pa = some (as.getD i 0 :: ((M.idx goal n pa).drop (m + 1)).map (fun i => as.getD i 0)) := by rw [hdrop]; exact (Lg.look2 hab).1
          have hsub : Lg.subH [(pa, ((M.idx goal n pa).drop m).map (fun i => as.getD i 0)), (pb, (M.idx goal n pb).map (fun i => as.getD i 0))] pa = [(pa, ((M.idx goal n pa).drop (m + 1)).map (fun i => as.getD i 0)), (pb, (M.idx goal n pb).map (fun i => as.getD i 0))] := by rw [hdrop]; exact Lg.sub_a
          refine Lg.g_asgV (ii := 10) (Lg.methAX (h := h0) (Lg.ixL (n := 0) (Lg.var (n := 1) rfl) Lg.cInt rfl) .here (fun _ _ _ _ => by kernel_rfl) (Lg.cons_ (Lg.var (n := 3) rfl) Lg.nil_) ⟨p0, as, [(pa, ((M.idx goal n pa).drop m).map (fun i => as.getD i 0)), (pb, (M.idx goal n pb).map (fun i => as.getD i 0))], h0, pa, _, rfl, rfl, .inr ⟨as.getD i 0, ((M.idx goal n pa).drop (m + 1)).map (fun i => as.getD i 0), hlk, (by rw [← List.map_cons (f := (fun i => as.getD i 0)), List.length_map, ← hdrop]; have q2 := Lg.idx_len (goal := goal) (pt := pa) (n := n); have := List.length_drop (i := m) (l := (M.idx goal n pa)); omega), (fun x hx => by
            rw [← List.map_cons (f := (fun i => as.getD i 0)), ← hdrop] at hx
            obtain ⟨j, hj, rfl⟩ := List.mem_map.mp hx
            have hjn := (M.idx_mem.mp (List.mem_of_mem_drop hj)).1
            obtain ⟨e, q1, q2⟩ := hrd0 j hjn
            exact ⟨j, e, hasA j hjn, q1, q2⟩), rfl, rfl⟩⟩) (fun q => ?_)
          rw [hsub]
          refine Lg.g_ds (ds' := [_, _, _, _, _, _, _, _, _, _, _]) rfl ?_
          refine Lg.g_or (Lg.tst (Lg.isNon (Lg.var (n := 10) rfl) (b := false) (fun F v dv => by rw [show v = _ from dv]; first | rfl | exact decide_eq_false (fun z => by cases z)))) rfl ?_
          refine Lg.g_or (Lg.tst (Lg.neSt (Lg.endA0 (Lg.cons_ (Lg.var (n := 10) rfl) Lg.nil_) (hasA i hin) he0 ⟨rfl, rfl, rfl⟩) (Lg.cSt .opn))) (by rw [hs0]; rfl) ?_
          refine Lg.g_no (Lg.tst (Lg.neSt (Lg.ev_sw (Lg.endA0 (Lg.cons_ (Lg.ixT (n := 0) (Lg.var (n := 9) rfl) Lg.cInt rfl) Lg.nil_) (hcsA i hin) he1 ⟨rfl, rfl, rfl⟩)) (Lg.cSt .opn))) (by rw [hs1]; rfl) ?_
          exact Lg.g_appF1 (Lg.var (n := 6) rfl) (Lg.tup_ (Lg.cons_ (Lg.ixT (n := 0) (Lg.var (n := 9) rfl) Lg.cInt rfl) (Lg.cons_ (Lg.var (n := 10) rfl) Lg.nil_)) (sz rfl)) (.there (.there .here)) (by
            unfold Lg.prs
            rw [List.length_map, List.length_append]
            have q1 := Lg.idx_len (goal := goal) (pt := pa) (n := n)
            have q2 := Lg.idx_len (goal := goal) (pt := pa) (n := n)
            have q3 := List.length_take_le m (M.idx goal n pa)
            first | omega | (simp only [List.length_nil]; omega)) (Lg.g_post rfl ⟨_, _, rfl, by rw [List.take_succ, hi]; simp [Lg.prs]⟩)
        · rintro ds q ⟨ov, ev, rfl, rfl⟩
          rw [List.length_map, List.drop_length, List.take_length]
          refine Lg.g_no1 (Lg.tst (Lg.notNon (Lg.evX_ev (Lg.methAX (h := h0) (Lg.ixL (n := 0) (Lg.var (n := 1) rfl) Lg.cInt rfl) .here (fun _ _ _ _ => by kernel_rfl) (Lg.cons_ (Lg.var (n := 3) rfl) Lg.nil_) ⟨p0, as, _, h0, pa, _, rfl, rfl, .inl ⟨(Lg.look2 hab).1, rfl, rfl⟩⟩) (fun _ _ _ o => o)) (b := true) (fun F v dv => by rw [show v = _ from dv]; first | rfl | exact decide_eq_false (fun z => by cases z)))) rfl ?_
          exact Lg.g_post rfl ⟨_, _, _, rfl, rfl⟩
      | 1, hx =>
        obtain rfl := Option.some.inj hx
        refine Lg.g_forL (ii := 9) (Lg.is_ (Lg.lcL (Lg.pD pb) (fun x => x) (Lg.var (n := 4) rfl) (by rw [Lg.clist_len]; omega) (fun x Dl acc hx => by
          obtain ⟨i, _, rfl⟩ := List.mem_map.mp hx
          exact (Lg.tst (Lg.eqI (Lg.ixT (n := 1) (Lg.var (n := 9) rfl) Lg.cInt rfl) (Lg.var (n := 3) rfl)))) (fun x Dl acc hx hp => (Lg.var (n := 9) rfl))) (congrArg Lg.Da.list (show _ = (M.idx goal n pb).map (Lg.one40 goal cs) by rw [Lg.clist_filter, hcs]))) (fun m ds q => ∃ ov ev : Option Lg.Da, ds = [some (.scr ns), some (.list [.ref p0, .ref p1]), some (Lg.li [pa, pb]), some (.int pb), some (.list (Lg.clist goal cs)), kv, some (.ref pp), mv, gv, ov, ev] ∧ q = [Lg.hostA K p0 as [(pa, []), (pb, ((M.idx goal n pb).drop m).map (fun i => as.getD i 0))] h0, Lg.hostA K p1 cs [] h1, Lg.ol K pp (Lg.prs cs as (M.idx goal n pa ++ (M.idx goal n pb).take m))]) ⟨_, _, rfl, by rw [List.take_zero, List.append_nil, List.drop_zero]; rfl⟩ ?_ ?_
        · rintro F2 m x ds q hF2 hx ⟨ov, ev, rfl, rfl⟩
          obtain ⟨i, hi, rfl⟩ : ∃ i, (M.idx goal n pb)[m]? = some i ∧ Lg.one40 goal cs i = x := by
            rw [List.getElem?_map] at hx
            exact Option.map_eq_some_iff.mp hx
          have hin : i < n := (M.idx_mem.mp (List.mem_of_getElem? hi)).1
          obtain ⟨hml, hme⟩ := List.getElem?_eq_some_iff.mp hi
          have hdrop : (M.idx goal n pb).drop m = i :: (M.idx goal n pb).drop (m + 1) := by rw [List.drop_eq_getElem_cons hml, hme]
          obtain ⟨e0, he0, hs0⟩ := hrd0 i hin
          obtain ⟨e1, he1, hs1⟩ := hrd1 i hin
          have hlk : ([(pa, []), (pb, ((M.idx goal n pb).drop m).map (fun i => as.getD i 0))] : List (Int × List PySem.Addr)).lookup pb = some (as.getD i 0 :: ((M.idx goal n pb).drop (m + 1)).map (fun i => as.getD i 0)) := by rw [hdrop]; exact (Lg.look2 hab).2
          have hsub : Lg.subH [(pa, []), (pb, ((M.idx goal n pb).drop m).map (fun i => as.getD i 0))] pb = [(pa, []), (pb, ((M.idx goal n pb).drop (m + 1)).map (fun i => as.getD i 0))] := by rw [hdrop]; exact Lg.sub_b hab
          refine Lg.g_asgV (ii := 10) (Lg.methAX (h := h0) (Lg.ixL (n := 0) (Lg.var (n := 1) rfl) Lg.cInt rfl) .here (fun _ _ _ _ => by kernel_rfl) (Lg.cons_ (Lg.var (n := 3) rfl) Lg.nil_) ⟨p0, as, [(pa, []), (pb, ((M.idx goal n pb).drop m).map (fun i => as.getD i 0))], h0, pb, _, rfl, rfl, .inr ⟨as.getD i 0, ((M.idx goal n pb).drop (m + 1)).map (fun i => as.getD i 0), hlk, (by rw [← List.map_cons (f := (fun i => as.getD i 0)), List.length_map, ← hdrop]; have q2 := Lg.idx_len (goal := goal) (pt := pb) (n := n); have := List.length_drop (i := m) (l := (M.idx goal n pb)); omega), (fun x hx => by
            rw [← List.map_cons (f := (fun i => as.getD i 0)), ← hdrop] at hx
            obtain ⟨j, hj, rfl⟩ := List.mem_map.mp hx
            have hjn := (M.idx_mem.mp (List.mem_of_mem_drop hj)).1
            obtain ⟨e, q1, q2⟩ := hrd0 j hjn
            exact ⟨j, e, hasA j hjn, q1, q2⟩), rfl, rfl⟩⟩) (fun q => ?_)
          rw [hsub]
          refine Lg.g_ds (ds' := [_, _, _, _, _, _, _, _, _, _, _]) rfl ?_
          refine Lg.g_or (Lg.tst (Lg.isNon (Lg.var (n := 10) rfl) (b := false) (fun F v dv => by rw [show v = _ from dv]; first | rfl | exact decide_eq_false (fun z => by cases z)))) rfl ?_
          refine Lg.g_or (Lg.tst (Lg.neSt (Lg.endA0 (Lg.cons_ (Lg.var (n := 10) rfl) Lg.nil_) (hasA i hin) he0 ⟨rfl, rfl, rfl⟩) (Lg.cSt .opn))) (by rw [hs0]; rfl) ?_
          refine Lg.g_no (Lg.tst (Lg.neSt (Lg.ev_sw (Lg.endA0 (Lg.cons_ (Lg.ixT (n := 0) (Lg.var (n := 9) rfl) Lg.cInt rfl) Lg.nil_) (hcsA i hin) he1 ⟨rfl, rfl, rfl⟩)) (Lg.cSt .opn))) (by rw [hs1]; rfl) ?_
          exact Lg.g_appF1 (Lg.var (n := 6) rfl) (Lg.tup_ (Lg.cons_ (Lg.ixT (n := 0) (Lg.var (n := 9) rfl) Lg.cInt rfl) (Lg.cons_ (Lg.var (n := 10) rfl) Lg.nil_)) (sz rfl)) (.there (.there .here)) (by
            unfold Lg.prs
            rw [List.length_map, List.length_append]
            have q1 := Lg.idx_len (goal := goal) (pt := pa) (n := n)
            have q2 := Lg.idx_len (goal := goal) (pt := pb) (n := n)
            have q3 := List.length_take_le m (M.idx goal n pb)
            first | omega | (simp only [List.length_nil]; omega)) (Lg.g_post rfl ⟨_, _, rfl, by rw [List.take_succ, hi]; simp [Lg.prs]⟩)
        · rintro ds q ⟨ov, ev, rfl, rfl⟩
          rw [List.length_map, List.drop_length, List.take_length]
          refine Lg.g_no1 (Lg.tst (Lg.notNon (Lg.evX_ev (Lg.methAX (h := h0) (Lg.ixL (n := 0) (Lg.var (n := 1) rfl) Lg.cInt rfl) .here (fun _ _ _ _ => by kernel_rfl) (Lg.cons_ (Lg.var (n := 3) rfl) Lg.nil_) ⟨p0, as, _, h0, pb, _, rfl, rfl, .inl ⟨(Lg.look2 hab).2, rfl, rfl⟩⟩) (fun _ _ _ o => o)) (b := true) (fun F v dv => by rw [show v = _ from dv]; first | rfl | exact decide_eq_false (fun z => by cases z)))) rfl ?_
          exact Lg.g_post rfl ⟨_, _, _, rfl, rfl⟩
      | j + 2, hx => simp at hx
    rintro ds q ⟨pv, ov, ev, rfl, rfl⟩
    obtain ⟨π, hπ⟩ : ∃ l, l = M.ord goal n pa pb := ⟨_, rfl⟩
    show Lg.G _ _ _ _ _ [Lg.hostA K p0 as [(pa, []), (pb, [])] h0, Lg.hostA K p1 cs [] h1, Lg.ol K pp (Lg.prs cs as (M.ord goal n pa pb))]
    rw [← hπ]
    have hnd : π.Nodup := by rw [hπ]; exact M.ord_nodup hab
    have hln : π.length = n := by rw [hπ]; exact M.ord_len hab fun i _ => hg i
    have hmem : ∀ i, i ∈ π ↔ i < n := fun i => by rw [hπ]; exact M.ord_mem fun i _ => hg i
    have hat : ∀ k, k < n → ∃ i, π[k]? = some i ∧ i < n ∧ π.idxOf i = k := fun k hk => by
      refine ⟨π[k], List.getElem?_eq_getElem _, (hmem _).mp (List.getElem_mem _), hnd.idxOf_getElem k (by omega)⟩
    have hat2 : ∀ i, i < n → ∃ j, j < n ∧ π[j]? = some i ∧ π.idxOf i = j := fun i hi => by
      have hm := (hmem i).mpr hi
      have hlt := List.idxOf_lt_length_of_mem hm
      exact ⟨π.idxOf i, by omega, by rw [List.getElem?_eq_getElem hlt, List.getElem_idxOf hlt], rfl⟩
    clear hπ
    refine Lg.g_sw3 ?_
    refine Lg.g_sw ?_
    refine Lg.g_freeze (ii := 6) rfl ?_
    obtain ⟨Dk, hDk⟩ : ∃ f : Nat → List Int, ∀ k, f k = List.replicate (1 + M.mix ns (20 + (k : Int)) % 16).toNat (k : Int) := ⟨_, fun _ => rfl⟩
    obtain ⟨Ek, hEk⟩ : ∃ f : Nat → List Int, ∀ k, f k = List.replicate (1 + M.mix ns (30 + (k : Int)) % 16).toNat (50 + (k : Int)) := ⟨_, fun _ => rfl⟩
    have lD : ∀ k, 1 ≤ (Dk k).length ∧ (Dk k).length ≤ 16 := fun k => by rw [hDk, List.length_replicate]; omega
    have lE : ∀ k, 1 ≤ (Ek k).length ∧ (Ek k).length ≤ 16 := fun k => by rw [hEk, List.length_replicate]; omega
    have bD : ∀ k, k < n → M.By (Dk k) := fun k hk x hx => by
      rw [hDk] at hx
      have := List.eq_of_mem_replicate hx
      omega
    have bE : ∀ k, k < n → M.By (Ek k) := fun k hk x hx => by
      rw [hEk] at hx
      have := List.eq_of_mem_replicate hx
      omega
    have lpr : ((Lg.prs cs as π).length : Int) = (n : Int) := by unfold Lg.prs; rw [List.length_map, hln]
    have hpk0 : ∀ {k i : Nat}, π[k]? = some i → (Lg.prs cs as π)[k]? = some (.tup [.ref (cs.getD i 0), .ref (as.getD i 0)]) := fun {k i} h => by
      unfold Lg.prs
      rw [List.getElem?_map, h]
      rfl
    have z0 := P.R0.sz ok1.ok.sw P.l0 hn4
    have z1 := P.R1.sz ok1.ok (Nat.le_of_eq P.l1) hn4
    refine Lg.g_ds (ds' := [_, _, _, _, _, _, _, _, _, _, _]) rfl ?_
    refine Lg.g_forR1 (ii := 5) (Lg.cons_ (Lg.is_ (Lg.lenL (Lg.var (n := 6) rfl)) (congrArg Lg.Da.int lpr)) Lg.nil_) ⟨by omega, by omega⟩ (fun k ds q => ∃ (g0 g1 : M.HostS) (kv : Option Lg.Da), M.Chg π (fun j e => (E.write e (Ek j)).1) h0 g0 k ∧ M.Chg π (fun j e => (E.write e (Dk j)).1) h1 g1 k ∧ ds = [some (.scr ns), some (.list [.ref p0, .ref p1]), some (Lg.li [pa, pb]), pv, some (.list (Lg.clist goal cs)), kv, some (.list (Lg.prs cs as π)), mv, gv, ov, ev] ∧ q = [Lg.hostA K p0 as [(pa, []), (pb, [])] g0, Lg.hostA K p1 cs [] g1]) ⟨h0, h1, _, M.Chg.start, M.Chg.start, rfl, rfl⟩ ?_ ?_
    · rintro k ds q hk ⟨g0, g1, kv2, c0, c1, rfl, rfl⟩
      obtain ⟨i, hpi, hin, _⟩ := hat k (by omega)
      have hpk := hpk0 hpi
      obtain ⟨e0, he0, _⟩ := hrd0 i hin
      obtain ⟨e1, he1, _⟩ := hrd1 i hin
      obtain ⟨he0', c0'⟩ := c0.step hnd hpi he0
      obtain ⟨he1', c1'⟩ := c1.step hnd hpi he1
      have ze0 := z0.1.en e0 (List.mem_of_getElem? he0)
      have ze1 := z1.1.en e1 (List.mem_of_getElem? he1)
      have lDk := lD k
      have lEk := lE k
      refine Lg.g_drop (Lg.ev_sw (Lg.endA (Lg.cons_ (Lg.ixT (n := 0) (Lg.ixL (n := k) (Lg.var (n := 6) rfl) (Lg.var (n := 5) rfl) hpk) Lg.cInt rfl) (Lg.cons_ (Lg.is_ (Lg.repLi (Lg.listI (Lg.consI (Lg.var (n := 5) rfl) Lg.nilI) (sz rfl)) (Lg.iI Lg.cInt (Lg.iC (by decide) (Lg.c_mix (Lg.cons_ (Lg.var (n := 0) rfl) (Lg.cons_ (Lg.iI Lg.cInt (Lg.var (n := 5) rfl)) Lg.nil_))) Lg.cInt)) (by omega)) (congrArg Lg.li (hDk k).symm)) Lg.nil_)) (hcsA i hin) he1' ⟨_, rfl, by omega, ze1, rfl, rfl⟩)) ?_
      exact Lg.g_drop1 (Lg.endA (Lg.cons_ (Lg.ixT (n := 1) (Lg.ixL (n := k) (Lg.var (n := 6) rfl) (Lg.var (n := 5) rfl) hpk) Lg.cInt rfl) (Lg.cons_ (Lg.is_ (Lg.repLi (Lg.listI (Lg.consI (Lg.iI Lg.cInt (Lg.var (n := 5) rfl)) Lg.nilI) (sz rfl)) (Lg.iI Lg.cInt (Lg.iC (by decide) (Lg.c_mix (Lg.cons_ (Lg.var (n := 0) rfl) (Lg.cons_ (Lg.iI Lg.cInt (Lg.var (n := 5) rfl)) Lg.nil_))) Lg.cInt)) (by omega)) (congrArg Lg.li (hEk k).symm)) Lg.nil_)) (hasA i hin) he0' ⟨_, rfl, by omega, ze0, rfl, rfl⟩) (Lg.g_post rfl ⟨_, _, _, c0', c1', rfl, rfl⟩)
    rintro ds q ⟨g0, g1, kv2, c0, c1, rfl, rfl⟩
    rw [Int.toNat_natCast] at c0 c1
    obtain ⟨S2, hS2⟩ : ∃ S : Nat → M.Sd, S = fun i => ⟨mine i, goal i, M.gs f1 i, M.gs f0 i, Dk (π.idxOf i), Ek (π.idxOf i)⟩ := ⟨_, rfl⟩
    have ok2 : Lg.NtOk ⟨n, S2, fun _ => [(pa, []), (pb, [])], f0⟩ true as := ⟨hn4, ⟨fun i hi => by
        obtain ⟨j, hj, _, hji⟩ := hat2 i hi
        rw [hS2]
        exact ⟨rm i hi, rgo i, M.gs_rg rf1, M.gs_rg rf0, (lD _).2, (lE _).2, by show M.By (Dk (π.idxOf i)); rw [hji]; exact bD j hj, by show M.By (Ek (π.idxOf i)); rw [hji]; exact bE j hj⟩, fun i hi => by rw [hS2]; exact (decide_eq_true (lD _).1).symm, fun i hi => by rw [hS2]; exact (decide_eq_true (lE _).1).symm, fun i j _ _ h _ => by rw [hS2] at h; exact hmi i j h⟩,
      fun _ _ => Lg.hz2 (Nat.zero_le _) (Nat.zero_le _), fun as' q h1 h2 => by
        have h2 : as'.length < n := h2
        omega⟩
    have P2 : Lg.NetP ⟨n, S2, fun _ => [(pa, []), (pb, [])], f0⟩ as as g0 g1 a0 a1 := ⟨⟨[], by simp⟩, P.len, P.l0,  l1,
      M.Chg.rel (S2 := fun i => (S2 i).sw) c0 P.R0 l0 r0 (fun i hi => by
        obtain ⟨j, hj, hp, hji⟩ := hat2 i hi
        refine ⟨j, hj, hp, (lE j).2, by rw [hS1, hS2]; rfl, ?_⟩
        rw [hS2, ← hji]
        rfl), M.Chg.rel c1 P.R1 l1 r1 (fun i hi => by
        obtain ⟨j, hj, hp, hji⟩ := hat2 i hi
        refine ⟨j, hj, hp, (lD j).2, by rw [hS1, hS2], ?_⟩
        rw [hS2, ← hji]), c0.fs.trans P.fst⟩
    clear c0 c1
    obtain ⟨b0, b1, fl2, m0, m1, q0, q1⟩ := pl2 (M.mix ns 16 % 4).toNat (by omega)
    refine Lg.g_closeN (N := ⟨n, S2, fun _ => [(pa, []), (pb, [])], f0⟩) (pre := as) (as := as) P2 ?_
    clear P2
    refine Lg.g_ds (ds' := [_, _, _, _, _, _, _, _, _, _, _]) rfl ?_
    refine Lg.g_no (Lg.tNot_ (Lg.tstB (Lg.call (Lg.cons_ (Lg.var (n := 1) rfl) (Lg.cons_ (Lg.c_mix (Lg.cons_ (Lg.var (n := 0) rfl) (Lg.cons_ Lg.cInt Lg.nil_))) Lg.nil_)) ⟨p0, p1, ⟨n, S2, fun _ => [(pa, []), (pb, [])], f0⟩, true, cs, as, _, _, b0, b1, _, [], rfl, ok2, hcs, M.mix_lo _ _, fl2, rfl, rfl, rfl⟩))) rfl ?_
    refine Lg.g_openN (fun as2 h0 h1 P => ?_)
    have has2 : as2 = as := by
      obtain ⟨t, ht⟩ := P.pre
      have := congrArg List.length ht
      rw [P.len, m0, List.length_append, las] at this
      have ht0 : t = [] := List.eq_nil_of_length_eq_zero (by omega)
      rw [ht, ht0, List.append_nil]
    subst has2
    show Lg.G _ _ _ _ _ [Lg.hostA K p0 as2 [(pa, []), (pb, [])] h0, Lg.hostA K p1 cs [] h1]
    have hrd0 : ∀ i, i < n → ∃ e, h0.ends[i]? = some e ∧ (E.read e 99).2 = Dk (π.idxOf i) := fun i hi => by
      have hx : b0.l[i]? = some b0.l[i] := List.getElem?_eq_getElem (by omega)
      obtain ⟨e, q3, q4⟩ := P.R0.en i _ hx
      refine ⟨e, q3, (M.read40 (ok2.ok.sw.ok i hi) (q0 _ (List.mem_of_getElem? hx)) q4).trans ?_⟩
      show (S2 i).D = _
      rw [hS2]
    have hrd1 : ∀ i, i < n → ∃ e, h1.ends[i]? = some e ∧ (E.read e 99).2 = Ek (π.idxOf i) := fun i hi => by
      have hx : b1.l[i]? = some b1.l[i] := List.getElem?_eq_getElem (by omega)
      obtain ⟨e, q3, q4⟩ := P.R1.en i _ hx
      refine ⟨e, q3, (M.read40 (ok2.ok.ok i hi) (q1 _ (List.mem_of_getElem? hx)) q4).trans ?_⟩
      show (S2 i).D' = _
      rw [hS2]
    refine Lg.g_ds (ds' := [_, _, _, _, _, _, _, _, _, _, _]) rfl ?_
    refine Lg.g_forR1 (ii := 5) (Lg.cons_ (Lg.is_ (Lg.lenL (Lg.var (n := 6) rfl)) (congrArg Lg.Da.int lpr)) Lg.nil_) ⟨by omega, by omega⟩ (fun k ds q => ∃ (g0 g1 : M.HostS) (kv : Option Lg.Da), M.Chg π (fun j e => (E.read e 99).1) h0 g0 k ∧ M.Chg π (fun j e => (E.read e 99).1) h1 g1 k ∧ ds = [some (.scr ns), some (.list [.ref p0, .ref p1]), some (Lg.li [pa, pb]), pv, some (.list (Lg.clist goal cs)), kv, some (.list (Lg.prs cs as2 π)), mv, gv, ov, ev] ∧ q = [Lg.hostA K p0 as2 [(pa, []), (pb, [])] g0, Lg.hostA K p1 cs [] g1]) ⟨h0, h1, _, M.Chg.start, M.Chg.start, rfl, rfl⟩ ?_ ?_
    · rintro k ds q hk ⟨g0, g1, kv2, c0, c1, rfl, rfl⟩
      obtain ⟨i, hpi, hin, hidx⟩ := hat k (by omega)
      have hpk := hpk0 hpi
      obtain ⟨e0, he0, v0⟩ := hrd0 i hin
      obtain ⟨e1, he1, v1⟩ := hrd1 i hin
      obtain ⟨he0', c0'⟩ := c0.step hnd hpi he0
      obtain ⟨he1', c1'⟩ := c1.step hnd hpi he1
      rw [hidx, hDk] at v0
      rw [hidx, hEk] at v1
      refine Lg.g_no (Lg.tst (Lg.neLi (Lg.endA (Lg.cons_ (Lg.ixT (n := 1) (Lg.ixL (n := k) (Lg.var (n := 6) rfl) (Lg.var (n := 5) rfl) hpk) Lg.cInt rfl) (Lg.cons_ Lg.cInt Lg.nil_)) (hasA i hin) he0' ⟨_, rfl, rfl, rfl⟩) (Lg.repLi (Lg.listI (Lg.consI (Lg.var (n := 5) rfl) Lg.nilI) (sz rfl)) (Lg.iI Lg.cInt (Lg.iC (by decide) (Lg.c_mix (Lg.cons_ (Lg.var (n := 0) rfl) (Lg.cons_ (Lg.iI Lg.cInt (Lg.var (n := 5) rfl)) Lg.nil_))) Lg.cInt)) (by omega)))) (by rw [v0]; simp) ?_
      refine Lg.g_no1 (Lg.tst (Lg.neLi (Lg.ev_sw (Lg.endA (Lg.cons_ (Lg.ixT (n := 0) (Lg.ixL (n := k) (Lg.var (n := 6) rfl) (Lg.var (n := 5) rfl) hpk) Lg.cInt rfl) (Lg.cons_ Lg.cInt Lg.nil_)) (hcsA i hin) he1' ⟨_, rfl, rfl, rfl⟩)) (Lg.repLi (Lg.listI (Lg.consI (Lg.iI Lg.cInt (Lg.var (n := 5) rfl)) Lg.nilI) (sz rfl)) (Lg.iI Lg.cInt (Lg.iC (by decide) (Lg.c_mix (Lg.cons_ (Lg.var (n := 0) rfl) (Lg.cons_ (Lg.iI Lg.cInt (Lg.var (n := 5) rfl)) Lg.nil_))) Lg.cInt)) (by omega)))) (by rw [v1]; simp) ?_
      exact Lg.g_post rfl ⟨_, _, _, c0', c1', rfl, rfl⟩
    rintro ds q ⟨g0, g1, kv2, c0, c1, rfl, rfl⟩
    exact Lg.g_ret Lg.cBl rfl (fun v F1 H1 s1 dv o1 => kk v H1 dv)
end
end Pr
open PySem PySem.W PySem.Calls PyProof.Rows
theorem PySem.Challenge.cw_wirestream_k40_two_talks_holds : PySem.Challenge.rw_wirestream_k40_two_talks.Holds := by
  w_on; o_law
  refine HandSHeadRun.head_any (r := OpenLaw.row PySem.Challenge.rw_wirestream_k40_two_talks) (q := view (OpenLaw.row PySem.Challenge.rw_wirestream_k40_two_talks).prog [103]) (H := Pr.hk2) (ob := Pr.ob2) (M := 6000) (loose := Pr.loose) (d := HandSHeadRun.topDef (OpenLaw.row PySem.Challenge.rw_wirestream_k40_two_talks).prog 103) (kwd := []) Pr.ob2_eq
    (by kernel_rfl) (fun s => by kernel_rfl) Pr.run (by kernel_rfl) (by kernel_rfl) (by kernel_rfl) (by rfl) (by first | assumption | decide +kernel) (by decide +kernel) ⟨rfl, rfl, rfl, rfl, rfl, by decide +kernel⟩ ?hw ?hc
  case hw => w_witness2
  case hc =>
    refine L2.walk_ofE (l := PySem.Challenge.rw_wirestream_k40_two_talks) (n := 63) (k := 10) (x := "_law_script") (CX := L2.CX0) rfl (by decide) (by kernel_rfl) ⟨rfl, by decide, by decide⟩ ?F (fun _ _ _ _ z => z)
    intro w mg fa h Y G hmg0
    obtain ⟨K, KX, c⟩ := Y
    have hmg : mg ("law" : PySem.Str) = some (.ref fa) := by
      have e : (HandSHeadRun.topDef (OpenLaw.row PySem.Challenge.rw_wirestream_k40_two_talks).prog 103).name = ("law" : PySem.Str) := by kernel_rfl
      rw [← e]
      exact hmg0
    obtain ⟨fd, hb, hF⟩ := Pr.law_ok (P := (PySem.Challenge.rw_wirestream_k40_two_talks).prog) (w := w) (T := ⟨⟨h, KX, G⟩, c.t.d, c.more⟩) hmg
    exact ⟨K, fd, Pr.spLaw K, KX, hb, fun H a ns hl _ hS => ⟨a, ns, rfl, hS, hl, fun _ => rfl⟩, hF⟩
#print axioms PySem.Challenge.cw_wirestream_k40_two_talks_holds
