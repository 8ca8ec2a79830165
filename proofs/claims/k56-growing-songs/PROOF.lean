import PyProof.Rows.All
import Wide.All
import OpenK.AllK
import Wide.FinOn
import HandS.ForMost
import HandS.ForExc
import HandS.Wide
import HandS.Flow
import HandS.IsInst
import HandS.ExcIs
import HandS.HotCalls
import HandS.TupAny
import HandS.TupMul
import HandS.TupLe
import HandS.Style
import HandS.Conv
import HandS.Rev
import HandS.Gcd
import KE.KMathG
import HandS.NoneIn
import Flt.RightSqrt
import PySem.Challenge.RW_playheld_k56_whole_songs_that_grow
set_option Elab.async false
set_option linter.all false
set_option maxRecDepth 100000
/-! Sm, part A: values as trees, cells, the relation to the abstract heap. -/
namespace Sm
open PySem PySem.Spec PyProof.Rows L2

/-- what a Python value is worth, as a tree -/
inductive D where
  | non | bl (b : Bool) | int (i : Int) | str (s : Str)
  | tup (xs : List D) | lst (xs : List D) | frl (xs : List D) | dct (kvs : List (D × D)) | exc (c : Nat)

/-- a slot: empty, or a tree; own: the object is reached by this slot alone; tag: it is still what was handed in at this place -/
inductive Cell where
  | emp
  | c (own : Bool) (tag : Option Nat) (d : D)
abbrev Env := List Cell
abbrev Tmp := List (Cell × Option V)

/-- what stands fixed: the written part, the handled exception, the classes of errors by number, the tables of code objects -/
structure Gam where
  K : PySem.W.Frag
  hot : Option (Addr × Nat)
  cls : Nat → Addr
  tabs : List Addr

def keyD : Key → D
  | .inl i => .int i
  | .inr s => .str s
def txtOk (x : Str) : Bool := x.cps.all fun c => decide (c < 0x110000)

def KTup (K : PySem.W.Frag) (a : Addr) (xs : List V) : Prop :=
  ∃ (o : Obj) (its : Array Value) (n : Nat), K.lookup a = some o ∧ o.cls = .type "tuple" ∧ o.data = .seq its n ∧ its.size ≤ sizeLine ∧ Vals xs its.toList
def KLst (K : PySem.W.Frag) (a : Addr) (xs : List V) : Prop :=
  ∃ (o : Obj) (its : Array Value) (n : Nat), K.lookup a = some o ∧ o.cls = .type "list" ∧ o.dict = none ∧ o.data = .seq its n ∧ its.size ≤ sizeLine ∧ Vals xs its.toList

mutual
/-- v stands for the tree d; no object of it lies in A -/
inductive Rep (G : Gam) (A : Addr → Prop) (H : Hp) : V → D → Prop where
  | non : Rep G A H .non .non
  | bl (b : Bool) : Rep G A H (.bl b) (.bl b)
  | int (i : Int) : Rep G A H (.int i) (.int i)
  | str (x : Str) : txtOk x = true → Rep G A H (.str x) (.str x)
  | tup {a : Addr} {vs : List V} {ds : List D} : ((Rd H a (.tup vs) ∧ ¬ A a) ∨ KTup G.K a vs) → Reps G A H vs ds → Rep G A H (.ref a) (.tup ds)
  | lst {a : Addr} {vs : List V} {ds : List D} : (H a = some (.lst vs) ∧ ¬ A a) → Reps G A H vs ds → Rep G A H (.ref a) (.lst ds)
  | frl {a : Addr} {vs : List V} {ds : List D} : ((Rd H a (.lst vs) ∧ ¬ A a) ∨ KLst G.K a vs) → Reps G A H vs ds → Rep G A H (.ref a) (.frl ds)
  | dctK {a : Addr} {kvs : List (Key × V)} {ds : List (D × D)} : (Rd H a (.dK kvs) ∧ ¬ A a) → kvs.map (fun p => keyD p.1) = ds.map (·.1) → Reps G A H (kvs.map (·.2)) (ds.map (·.2)) → Rep G A H (.ref a) (.dct ds)
  | dctT {a : Addr} {kvs : List (List Key × V)} {ds : List (D × D)} : (Rd H a (.dT kvs) ∧ ¬ A a) → kvs.map (fun p => D.tup (p.1.map keyD)) = ds.map (·.1) → Reps G A H (kvs.map (·.2)) (ds.map (·.2)) → Rep G A H (.ref a) (.dct ds)
  | exc {a : Addr} {c : Nat} : G.hot = some (a, c) → Rep G A H (.ref a) (.exc c)
inductive Reps (G : Gam) (A : Addr → Prop) (H : Hp) : List V → List D → Prop where
  | nil : Reps G A H [] []
  | cons {v : V} {vs : List V} {d : D} {ds : List D} : Rep G A H v d → Reps G A H vs ds → Reps G A H (v :: vs) (d :: ds)
end

/-- the content of an object that is owned -/
def Cont (G : Gam) (A : Addr → Prop) (H : Hp) (a : Addr) : D → Prop
  | .lst ds => ∃ vs, H a = some (.lst vs) ∧ Reps G A H vs ds
  | .dct ds => (∃ kvs : List (Key × V), H a = some (.dK kvs) ∧ kvs.map (fun p => keyD p.1) = ds.map (·.1) ∧ Reps G A H (kvs.map (·.2)) (ds.map (·.2))) ∨
      ∃ kvs : List (List Key × V), H a = some (.dT kvs) ∧ kvs.map (fun p => D.tup (p.1.map keyD)) = ds.map (·.1) ∧ Reps G A H (kvs.map (·.2)) (ds.map (·.2))
  | _ => False

section
variable {G : Gam} {A A' : Addr → Prop} {H H' : Hp}
theorem Rd.moved {a : Addr} {u : HO} (h : ∀ a o, H a = some o → ¬ A a → H' a = some o ∧ ¬ A' a) (r : Rd H a u) (n : ¬ A a) : Rd H' a u ∧ ¬ A' a := by
  rcases r with r | ⟨o, r⟩
  · exact ⟨.inl (h a _ r n).1, (h a _ r n).2⟩
  · exact ⟨.inr ⟨o, (h a _ r n).1⟩, (h a _ r n).2⟩
mutual
theorem Rep.mono (h : ∀ a o, H a = some o → ¬ A a → H' a = some o ∧ ¬ A' a) : ∀ {v : V} {d : D}, Rep G A H v d → Rep G A' H' v d
  | _, _, .non => .non
  | _, _, .bl b => .bl b
  | _, _, .int i => .int i
  | _, _, .str x k => .str x k
  | _, _, .tup q r => .tup (q.imp (fun ⟨q, n⟩ => Rd.moved h q n) id) (Reps.mono h r)
  | _, _, .lst q r => .lst (h _ _ q.1 q.2) (Reps.mono h r)
  | _, _, .frl q r => .frl (q.imp (fun ⟨q, n⟩ => Rd.moved h q n) id) (Reps.mono h r)
  | _, _, .dctK q k r => .dctK (Rd.moved h q.1 q.2) k (Reps.mono h r)
  | _, _, .dctT q k r => .dctT (Rd.moved h q.1 q.2) k (Reps.mono h r)
  | _, _, .exc e => .exc e
theorem Reps.mono (h : ∀ a o, H a = some o → ¬ A a → H' a = some o ∧ ¬ A' a) : ∀ {v : List V} {d : List D}, Reps G A H v d → Reps G A' H' v d
  | _, _, .nil => .nil
  | _, _, .cons a b => .cons (Rep.mono h a) (Reps.mono h b)
end
theorem Cont.mono {a : Addr} {d : D} (h : ∀ a o, H a = some o → ¬ A a → H' a = some o ∧ ¬ A' a) (e : H' a = H a) (c : Cont G A H a d) : Cont G A' H' a d := by
  cases d with
  | lst ds => obtain ⟨vs, h1, r⟩ := c; exact ⟨vs, e.trans h1, r.mono h⟩
  | dct ds =>
    rcases c with ⟨kvs, h1, k, r⟩ | ⟨kvs, h1, k, r⟩
    · exact .inl ⟨kvs, e.trans h1, k, r.mono h⟩
    · exact .inr ⟨kvs, e.trans h1, k, r.mono h⟩
  | _ => exact c.elim
theorem Cont.there {a : Addr} {d : D} (c : Cont G A H a d) : ∃ o, H a = some o ∧ ∀ ps, o ≠ .tbl ps := by
  cases d with
  | lst ds => obtain ⟨vs, h1, r⟩ := c; exact ⟨_, h1, fun _ z => nomatch z⟩
  | dct ds =>
    rcases c with ⟨kvs, h1, _⟩ | ⟨kvs, h1, _⟩
    · exact ⟨_, h1, fun _ z => nomatch z⟩
    · exact ⟨_, h1, fun _ z => nomatch z⟩
  | _ => exact c.elim
/-- an owned object that no one owns any more -/
theorem Cont.rep {a : Addr} {d : D} (c : Cont G A H a d) (h : ∀ b, A' b → A b) (n : ¬ A' a) : Rep G A' H (.ref a) d := by
  have hm : ∀ b o, H b = some o → ¬ A b → H b = some o ∧ ¬ A' b := fun b o e z => ⟨e, fun q => z (h b q)⟩
  cases d with
  | lst ds => obtain ⟨vs, h1, r⟩ := c; exact .lst ⟨h1, n⟩ (r.mono hm)
  | dct ds =>
    rcases c with ⟨kvs, h1, k, r⟩ | ⟨kvs, h1, k, r⟩
    · exact .dctK ⟨.inl h1, n⟩ k (r.mono hm)
    · exact .dctT ⟨.inl h1, n⟩ k (r.mono hm)
  | _ => exact c.elim
theorem Reps.length {vs : List V} {ds : List D} (h : Reps G A H vs ds) : vs.length = ds.length := by
  induction vs generalizing ds with
  | nil => cases h; rfl
  | cons v vs ih => cases h with | cons a b => simp [ih b]
theorem Reps.get {vs : List V} {ds : List D} {i : Nat} {d : D} (h : Reps G A H vs ds) (e : ds[i]? = some d) : ∃ v, vs[i]? = some v ∧ Rep G A H v d := by
  induction vs generalizing ds i with
  | nil => cases h; cases e
  | cons v vs ih =>
    cases h with
    | cons a b =>
      cases i with
      | zero => cases e; exact ⟨v, rfl, a⟩
      | succ i => exact ih b e
theorem Reps.append {vs ws : List V} {ds es : List D} (h : Reps G A H vs ds) (k : Reps G A H ws es) : Reps G A H (vs ++ ws) (ds ++ es) := by
  induction vs generalizing ds with
  | nil => cases h; exact k
  | cons v vs ih => cases h with | cons a b => exact .cons a (ih b)
theorem Reps.take {vs : List V} {ds : List D} (n : Nat) (h : Reps G A H vs ds) : Reps G A H (vs.take n) (ds.take n) := by
  induction vs generalizing ds n with
  | nil => cases h; simp; exact .nil
  | cons v vs ih =>
    cases h with
    | cons a b =>
      cases n with
      | zero => exact .nil
      | succ n => exact .cons a (ih n b)
theorem Reps.drop {vs : List V} {ds : List D} (n : Nat) (h : Reps G A H vs ds) : Reps G A H (vs.drop n) (ds.drop n) := by
  induction vs generalizing ds n with
  | nil => cases h; simp; exact .nil
  | cons v vs ih =>
    cases h with
    | cons a b =>
      cases n with
      | zero => exact .cons a b
      | succ n => exact ih n b
theorem Reps.set {vs : List V} {ds : List D} {v : V} {d : D} (i : Nat) (h : Reps G A H vs ds) (k : Rep G A H v d) : Reps G A H (vs.set i v) (ds.set i d) := by
  induction vs generalizing ds i with
  | nil => cases h; exact .nil
  | cons w vs ih =>
    cases h with
    | cons a b =>
      cases i with
      | zero => exact .cons k b
      | succ i => exact .cons a (ih i b)
theorem Reps.eraseIdx {vs : List V} {ds : List D} (i : Nat) (h : Reps G A H vs ds) : Reps G A H (vs.eraseIdx i) (ds.eraseIdx i) := by
  induction vs generalizing ds i with
  | nil => cases h; exact .nil
  | cons w vs ih =>
    cases h with
    | cons a b =>
      cases i with
      | zero => exact b
      | succ i => exact .cons a (ih i b)
theorem Reps.one {v : V} {d : D} (h : Rep G A H v d) : Reps G A H [v] [d] := .cons h .nil
theorem Reps.reverse {vs : List V} {ds : List D} (h : Reps G A H vs ds) : Reps G A H vs.reverse ds.reverse := by
  induction vs generalizing ds with
  | nil => cases h; exact .nil
  | cons w vs ih =>
    cases h with
    | cons a b => rw [List.reverse_cons, List.reverse_cons]; exact (ih b).append (.one a)
theorem Reps.map_int {is : List Int} : Reps G A H (is.map .int) (is.map .int) := by
  induction is with
  | nil => exact .nil
  | cons i is ih => exact .cons (.int i) ih
theorem Reps.ints {vs : List V} {is : List Int} (h : Reps G A H vs (is.map .int)) : vs = is.map .int := by
  induction is generalizing vs with
  | nil => cases h; rfl
  | cons i is ih =>
    cases h with
    | cons a b => cases a; rw [ih b]; rfl
end

/-! ### cells and lists of cells -/
def ownA : Cell × Option V → Option Addr
  | (.c true _ _, some (.ref a)) => some a
  | _ => none
def owns (L : Tmp) : List Addr := L.filterMap ownA
def TagOk (g : Nat → V) (b : Option Nat) (v : V) : Prop := ∀ j, b = some j → v = g j
def CellOk (G : Gam) (g : Nat → V) (A : Addr → Prop) (H : Hp) : Cell × Option V → Prop
  | (.emp, _) => True
  | (.c false b d, some v) => TagOk g b v ∧ Rep G A H v d
  | (.c true b d, some (.ref a)) => TagOk g b (.ref a) ∧ Cont G A H a d
  | _ => False
theorem TagOk.none {g : Nat → V} {v : V} : TagOk g none v := fun _ z => nomatch z
structure RelL (G : Gam) (g : Nat → V) (L : Tmp) (H : Hp) : Prop where
  ok : ∀ p ∈ L, CellOk G g (· ∈ owns L) H p
  nd : (owns L).Nodup
  tab : ∀ P ∈ G.tabs, ∃ ps, H P = some (.tbl ps) ∧ TriplesOk ps.toList
def Rel (G : Gam) (g : Nat → V) (ρ : Env) (σ : L2.St) (T : Tmp) (H : Hp) : Prop := ρ.length = σ.length ∧ RelL G g (ρ.zip σ ++ T) H
abbrev vl (d : D) : Cell := .c false none d
abbrev ow (d : D) : Cell := .c true none d

section
variable {G : Gam} {g : Nat → V} {A A' : Addr → Prop} {H H' : Hp} {L L' : Tmp}
theorem owns_cons (p : Cell × Option V) (L : Tmp) : owns (p :: L) = (match ownA p with | some a => a :: owns L | none => owns L) := by
  unfold owns
  rw [List.filterMap_cons]
  cases ownA p <;> rfl
theorem owns_append (L M : Tmp) : owns (L ++ M) = owns L ++ owns M := List.filterMap_append ..
theorem owns_perm (h : L.Perm L') : (owns L).Perm (owns L') := h.filterMap _
theorem mem_owns {a : Addr} : a ∈ owns L ↔ ∃ b d, (Cell.c true b d, some (V.ref a)) ∈ L := by
  unfold owns
  rw [List.mem_filterMap]
  constructor
  · rintro ⟨p, hp, e⟩
    obtain ⟨c, v⟩ := p
    unfold ownA at e
    split at e
    · rename_i b d a' q
      cases q; cases e
      exact ⟨_, _, hp⟩
    · cases e
  · rintro ⟨b, d, h⟩
    exact ⟨_, h, rfl⟩
theorem CellOk.mono {p : Cell × Option V} (h : ∀ a o, H a = some o → ¬ A a → H' a = some o ∧ ¬ A' a) (hw : ∀ a, ownA p = some a → H' a = H a) (c : CellOk G g A H p) : CellOk G g A' H' p := by
  obtain ⟨c', v⟩ := p
  cases c' with
  | emp => trivial
  | c o b d =>
    cases o with
    | false =>
      cases v with
      | none => exact c.elim
      | some v => exact ⟨c.1, Rep.mono h c.2⟩
    | true =>
      cases v with
      | none => exact c.elim
      | some v =>
        cases v with
        | ref a => exact ⟨c.1, Cont.mono h (hw a rfl) c.2⟩
        | _ => exact c.elim
theorem RelL.perm (h : L.Perm L') (r : RelL G g L H) : RelL G g L' H := by
  have e := owns_perm h
  refine ⟨fun p hp => ?_, e.nodup_iff.mp r.nd, r.tab⟩
  refine (r.ok p (h.mem_iff.mpr hp)).mono (fun a o q n => ⟨q, fun z => n (e.mem_iff.mpr z)⟩) fun _ _ => rfl
/-- fewer, or copies of what is not owned -/
theorem RelL.sub (r : RelL G g L H) (h : ∀ p ∈ L', p ∈ L ∨ p.1 = .emp) (nd : (owns L').Nodup) : RelL G g L' H := by
  refine ⟨fun p hp => ?_, nd, r.tab⟩
  rcases h p hp with q | q
  · refine (r.ok p q).mono (fun a o e n => ⟨e, fun z => n ?_⟩) fun _ _ => rfl
    obtain ⟨b, d, hm⟩ := mem_owns.mp z
    rcases h _ hm with q' | q'
    · exact mem_owns.mpr ⟨b, d, q'⟩
    · cases q'
  · obtain ⟨c, v⟩ := p
    cases q
    trivial
theorem RelL.tail {p : Cell × Option V} (r : RelL G g (p :: L) H) : RelL G g L H := by
  refine r.sub (fun q hq => .inl (List.mem_cons_of_mem _ hq)) ?_
  have n := r.nd
  rw [owns_cons] at n
  split at n
  · exact (List.nodup_cons.mp n).2
  · exact n
theorem RelL.pushT {v : V} {d : D} {b : Option Nat} (r : RelL G g L H) (t : TagOk g b v) (k : Rep G (· ∈ owns L) H v d) : RelL G g ((.c false b d, some v) :: L) H := by
  have e : owns ((Cell.c false b d, some v) :: L) = owns L := by rw [owns_cons]; rfl
  refine ⟨fun p hp => ?_, by rw [e]; exact r.nd, r.tab⟩
  rw [e]
  rcases List.mem_cons.mp hp with q | q
  · rw [q]; exact ⟨t, k⟩
  · exact r.ok p q
theorem RelL.push {v : V} {d : D} (r : RelL G g L H) (k : Rep G (· ∈ owns L) H v d) : RelL G g ((vl d, some v) :: L) H := r.pushT .none k
theorem RelL.pushE {v : Option V} (r : RelL G g L H) : RelL G g ((.emp, v) :: L) H := by
  have e : owns ((Cell.emp, v) :: L) = owns L := by rw [owns_cons]; rfl
  refine ⟨fun p hp => ?_, by rw [e]; exact r.nd, r.tab⟩
  rw [e]
  rcases List.mem_cons.mp hp with q | q
  · rw [q]; trivial
  · exact r.ok p q
theorem RelL.dom (r : RelL G g L H) {a : Addr} (h : a ∈ owns L) : ∃ o, H a = some o ∧ ∀ ps, o ≠ .tbl ps := by
  obtain ⟨b, d, hm⟩ := mem_owns.mp h
  exact Cont.there (r.ok _ hm).2
theorem tab_upd {p : Addr} {o : HO} (r : RelL G g L H) (hp : ∀ ps, H p ≠ some (.tbl ps)) : ∀ P ∈ G.tabs, ∃ ps, upd H p o P = some (.tbl ps) ∧ TriplesOk ps.toList := fun P hP => by
  obtain ⟨ps, e, t⟩ := r.tab P hP
  refine ⟨ps, ?_, t⟩
  rw [upd_ne]
  · exact e
  · intro z; subst z; exact hp ps e
/-- a new object, owned -/
theorem RelL.newOwn {p : Addr} {o : HO} {d : D} (r : RelL G g L H) (hp : H p = none) (k : Cont G (fun a => a = p ∨ a ∈ owns L) (upd H p o) p d) : RelL G g ((ow d, some (.ref p)) :: L) (upd H p o) := by
  have e : owns ((ow d, some (V.ref p)) :: L) = p :: owns L := by rw [owns_cons]; rfl
  have np : p ∉ owns L := fun z => by
    obtain ⟨u, q, _⟩ := r.dom z
    rw [hp] at q; cases q
  refine ⟨fun q hq => ?_, by rw [e]; exact List.nodup_cons.mpr ⟨np, r.nd⟩, tab_upd r fun ps z => by rw [hp] at z; cases z⟩
  rw [e]
  have hA : ∀ a, (a ∈ p :: owns L) = (a = p ∨ a ∈ owns L) := fun a => propext List.mem_cons
  rcases List.mem_cons.mp hq with z | z
  · rw [z]
    show TagOk _ _ _ ∧ Cont G _ _ p d
    simp only [hA]
    exact ⟨.none, k⟩
  · refine (r.ok q z).mono (fun a u e n => ?_) fun a h => ?_
    · have ne : a ≠ p := ne_of_none e hp
      refine ⟨by rw [upd_ne ne]; exact e, fun z => ?_⟩
      rcases List.mem_cons.mp z with z | z
      · exact ne z
      · exact n z
    · have ha : a ∈ owns L := List.mem_filterMap.mpr ⟨q, z, h⟩
      rw [upd_ne]
      intro z; subst z; exact np ha
/-- a new object that is a value -/
theorem RelL.newVal {p : Addr} {o : HO} {d : D} (r : RelL G g L H) (hp : H p = none) (k : Rep G (· ∈ owns L) (upd H p o) (.ref p) d) : RelL G g ((vl d, some (.ref p)) :: L) (upd H p o) := by
  have np : p ∉ owns L := fun z => by
    obtain ⟨u, q, _⟩ := r.dom z
    rw [hp] at q; cases q
  have r' : RelL G g L (upd H p o) := by
    refine ⟨fun q hq => ?_, r.nd, tab_upd r fun ps z => by rw [hp] at z; cases z⟩
    refine (r.ok q hq).mono (fun a u e n => ⟨by rw [upd_ne (ne_of_none e hp)]; exact e, n⟩) fun a h => ?_
    have ha : a ∈ owns L := List.mem_filterMap.mpr ⟨q, hq, h⟩
    rw [upd_ne]
    intro z; subst z; exact np ha
  exact r'.push k
theorem Reps.fresh {p : Addr} {o : HO} {vs : List V} {ds : List D} (h : Reps G A H vs ds) (hp : H p = none) : Reps G (fun a => a = p ∨ A a) (upd H p o) vs ds :=
  h.mono fun a u e n => ⟨by rw [upd_ne (ne_of_none e hp)]; exact e, fun z => z.elim (ne_of_none e hp) n⟩
theorem Reps.fresh' {p : Addr} {o : HO} {vs : List V} {ds : List D} (h : Reps G A H vs ds) (hp : H p = none) : Reps G A (upd H p o) vs ds :=
  h.mono fun a u e n => ⟨by rw [upd_ne (ne_of_none e hp)]; exact e, n⟩
theorem RelL.newLst {p : Addr} {vs : List V} {ds : List D} (r : RelL G g L H) (hp : H p = none) (k : Reps G (· ∈ owns L) H vs ds) : RelL G g ((ow (.lst ds), some (.ref p)) :: L) (upd H p (.lst vs)) :=
  r.newOwn hp ⟨vs, upd_same, k.fresh hp⟩
theorem RelL.notOwn (r : RelL G g L H) {p : Addr} (hp : H p = none) : p ∉ owns L := fun z => by
  obtain ⟨u, q, _⟩ := r.dom z
  rw [hp] at q; cases q
theorem RelL.newTup {p : Addr} {vs : List V} {ds : List D} (r : RelL G g L H) (hp : H p = none) (k : Reps G (· ∈ owns L) H vs ds) : RelL G g ((vl (.tup ds), some (.ref p)) :: L) (upd H p (.tup vs)) :=
  r.newVal hp (.tup (.inl ⟨.inl upd_same, r.notOwn hp⟩) (k.fresh' hp))
/-- an owned object is changed -/
theorem RelL.mut {a : Addr} {o : HO} {d d' : D} {b : Option Nat} (r : RelL G g ((.c true b d, some (.ref a)) :: L) H) (k : Cont G (fun x => x = a ∨ x ∈ owns L) (upd H a o) a d') : RelL G g ((.c true b d', some (.ref a)) :: L) (upd H a o) := by
  have e : ∀ d, owns ((Cell.c true b d, some (V.ref a)) :: L) = a :: owns L := fun d => by rw [owns_cons]; rfl
  have nd := r.nd
  rw [e] at nd
  have na := (List.nodup_cons.mp nd).1
  obtain ⟨u, hu, nt⟩ := r.dom (a := a) (by rw [e]; exact List.mem_cons_self)
  refine ⟨fun q hq => ?_, by rw [e]; exact nd, tab_upd r fun ps z => ?_⟩
  · rw [e]
    have hA : ∀ x, (x ∈ a :: owns L) = (x = a ∨ x ∈ owns L) := fun x => propext List.mem_cons
    rcases List.mem_cons.mp hq with z | z
    · rw [z]
      show TagOk _ _ _ ∧ Cont G _ _ a d'
      simp only [hA]
      exact ⟨(r.ok _ List.mem_cons_self).1, k⟩
    · have c := r.ok q (List.mem_cons_of_mem _ z)
      rw [e] at c
      refine c.mono (fun x u q n => ?_) fun x h => ?_
      · have ne : x ≠ a := fun z => n (by rw [z]; exact List.mem_cons_self)
        exact ⟨by rw [upd_ne ne]; exact q, n⟩
      · have hx : x ∈ owns L := List.mem_filterMap.mpr ⟨q, z, h⟩
        rw [upd_ne]
        intro z; subst z; exact na hx
  · rw [hu] at z; cases z; exact nt ps rfl
/-- what was owned becomes a value -/
theorem RelL.freeze {a : Addr} {d : D} {b b' : Option Nat} (hb : ∀ j, b' = some j → b = some j) (r : RelL G g ((.c true b d, some (.ref a)) :: L) H) : RelL G g ((.c false b' d, some (.ref a)) :: L) H := by
  have e : owns ((Cell.c true b d, some (V.ref a)) :: L) = a :: owns L := by rw [owns_cons]; rfl
  have nd := r.nd
  rw [e] at nd
  have c : TagOk g b (.ref a) ∧ Cont G (· ∈ owns ((Cell.c true b d, some (V.ref a)) :: L)) H a d := r.ok _ List.mem_cons_self
  rw [e] at c
  exact r.tail.pushT (fun j z => c.1 j (hb j z)) (c.2.rep (fun x hx => List.mem_cons_of_mem _ hx) (List.nodup_cons.mp nd).1)
/-- the head, frozen whatever it is -/
theorem RelL.valT {v : V} {o : Bool} {b b' : Option Nat} {d : D} (hb : ∀ j, b' = some j → b = some j) (r : RelL G g ((.c o b d, some v) :: L) H) : RelL G g ((.c false b' d, some v) :: L) H := by
  cases o with
  | false =>
    have c : TagOk g b v ∧ Rep G (· ∈ owns ((Cell.c false b d, some v) :: L)) H v d := r.ok _ List.mem_cons_self
    have e : owns ((Cell.c false b d, some v) :: L) = owns L := by rw [owns_cons]; rfl
    rw [e] at c
    exact r.tail.pushT (fun j z => c.1 j (hb j z)) c.2
  | true =>
    have c := r.ok _ List.mem_cons_self
    cases v with
    | ref a => exact r.freeze hb
    | _ => exact c.elim
theorem RelL.val {v : V} {o : Bool} {b : Option Nat} {d : D} (r : RelL G g ((.c o b d, some v) :: L) H) : RelL G g ((vl d, some v) :: L) H := r.valT fun _ z => nomatch z
theorem RelL.rep {v : V} {b : Option Nat} {d : D} (r : RelL G g ((.c false b d, some v) :: L) H) : Rep G (· ∈ owns L) H v d := by
  have c : TagOk g b v ∧ Rep G (· ∈ owns ((Cell.c false b d, some v) :: L)) H v d := r.ok _ List.mem_cons_self
  have e : owns ((Cell.c false b d, some v) :: L) = owns L := by rw [owns_cons]; rfl
  rw [e] at c
  exact c.2
/-- the tag of the head changed -/
theorem RelL.retag {v : Option V} {o : Bool} {b b' : Option Nat} {d : D} (ht : ∀ x, v = some x → TagOk g b' x) (r : RelL G g ((.c o b d, v) :: L) H) : RelL G g ((.c o b' d, v) :: L) H := by
  have e : owns ((Cell.c o b' d, v) :: L) = owns ((Cell.c o b d, v) :: L) := by
    rw [owns_cons, owns_cons]
    cases o with
    | false => rfl
    | true => cases v with
      | none => rfl
      | some v => cases v <;> rfl
  refine ⟨fun q hq => ?_, by rw [e]; exact r.nd, r.tab⟩
  rw [e]
  rcases List.mem_cons.mp hq with z | z
  · rw [z]
    have c := r.ok _ List.mem_cons_self
    cases v with
    | none => cases o <;> exact c.elim
    | some v =>
      cases o with
      | false => exact ⟨ht v rfl, c.2⟩
      | true => cases v with
        | ref a => exact ⟨ht _ rfl, c.2⟩
        | _ => exact c.elim
  · exact r.ok q (List.mem_cons_of_mem _ z)
/-- what can be looked at: a value, or an object that is owned -/
def View (G : Gam) (A : Addr → Prop) (H : Hp) (v : V) (d : D) : Prop := Rep G A H v d ∨ ∃ a, v = .ref a ∧ A a ∧ Cont G A H a d
theorem RelL.view {v : V} {o : Bool} {b : Option Nat} {d : D} (r : RelL G g L H) (h : (Cell.c o b d, some v) ∈ L) : View G (· ∈ owns L) H v d := by
  have c := r.ok _ h
  cases o with
  | false => exact .inl c.2
  | true =>
    cases v with
    | ref a => exact .inr ⟨a, rfl, mem_owns.mpr ⟨b, d, h⟩, c.2⟩
    | _ => exact c.elim
theorem View.lst {v : V} {ds : List D} (w : View G A H v (.lst ds)) : ∃ a vs, v = .ref a ∧ H a = some (.lst vs) ∧ Reps G A H vs ds := by
  rcases w with w | ⟨a, e, _, vs, h, r⟩
  · cases w with
    | lst q r => exact ⟨_, _, rfl, q.1, r⟩
  · exact ⟨a, vs, e, h, r⟩
theorem View.frl {v : V} {ds : List D} (w : View G A H v (.frl ds)) : ∃ a vs, v = .ref a ∧ SqL G.K H a vs ∧ Reps G A H vs ds := by
  rcases w with w | ⟨a, e, _, c⟩
  · cases w with
    | frl q r =>
      rcases q with ⟨q, _⟩ | q
      · exact ⟨_, _, rfl, .inl q, r⟩
      · exact ⟨_, _, rfl, .inr q, r⟩
  · exact c.elim
theorem View.tup {v : V} {ds : List D} (w : View G A H v (.tup ds)) : ∃ a vs, v = .ref a ∧ SqT G.K H a vs ∧ Reps G A H vs ds := by
  rcases w with w | ⟨a, e, _, c⟩
  · cases w with
    | tup q r =>
      rcases q with ⟨q, _⟩ | q
      · exact ⟨_, _, rfl, .inl q, r⟩
      · exact ⟨_, _, rfl, .inr q, r⟩
  · exact c.elim
theorem View.int {v : V} {i : Int} (w : View G A H v (.int i)) : v = .int i := by
  rcases w with w | ⟨a, e, _, c⟩
  · cases w; rfl
  · exact c.elim
theorem View.bl {v : V} {i : Bool} (w : View G A H v (.bl i)) : v = .bl i := by
  rcases w with w | ⟨a, e, _, c⟩
  · cases w; rfl
  · exact c.elim
theorem View.str {v : V} {i : Str} (w : View G A H v (.str i)) : v = .str i ∧ txtOk i = true := by
  rcases w with w | ⟨a, e, _, c⟩
  · cases w with | str _ k => exact ⟨rfl, k⟩
  · exact c.elim
theorem View.non {v : V} (w : View G A H v .non) : v = .non := by
  rcases w with w | ⟨a, e, _, c⟩
  · cases w; rfl
  · exact c.elim
end

/-! ### slots -/
section
variable {G : Gam} {g : Nat → V} {H : Hp} {ρ : Env} {σ : L2.St} {T : Tmp}
theorem zip_mem {i : Nat} {c : Cell} {s : Option V} (h1 : ρ[i]? = some c) (h2 : σ[i]? = some s) : (c, s) ∈ ρ.zip σ := by
  have e : (ρ.zip σ)[i]? = some (c, s) := by rw [List.getElem?_zip_eq_some]; exact ⟨h1, h2⟩
  exact List.mem_of_getElem? e
theorem zip_set {i : Nat} {c c' : Cell} {s s' : Option V} (h1 : ρ[i]? = some c) (h2 : σ[i]? = some s) : ∃ L, (ρ.zip σ).Perm ((c, s) :: L) ∧ ((ρ.set i c').zip (σ.set i s')).Perm ((c', s') :: L) := by
  induction ρ generalizing σ i with
  | nil => cases h1
  | cons a ρ ih =>
    cases σ with
    | nil => cases h2
    | cons b σ =>
      cases i with
      | zero => cases h1; cases h2; exact ⟨ρ.zip σ, List.Perm.refl _, List.Perm.refl _⟩
      | succ i =>
        obtain ⟨L, p1, p2⟩ := ih (σ := σ) (i := i) h1 h2
        exact ⟨(a, b) :: L, (p1.cons _).trans (List.Perm.swap ..), (p2.cons _).trans (List.Perm.swap ..)⟩
theorem Rel.at {i : Nat} {c : Cell} (r : Rel G g ρ σ T H) (h : ρ[i]? = some c) : ∃ s, σ[i]? = some s ∧ (c, s) ∈ ρ.zip σ ++ T := by
  have hi : i < σ.length := by
    have := (List.getElem?_eq_some_iff.mp h).1
    have e := r.1
    omega
  exact ⟨σ[i], List.getElem?_eq_getElem hi, List.mem_append_left _ (zip_mem h (List.getElem?_eq_getElem hi))⟩
theorem Rel.val_at {i : Nat} {o : Bool} {b : Option Nat} {d : D} (r : Rel G g ρ σ T H) (h : ρ[i]? = some (.c o b d)) : ∃ v, σ[i]? = some (some v) ∧ (Cell.c o b d, some v) ∈ ρ.zip σ ++ T := by
  obtain ⟨s, e, m⟩ := r.at h
  have c := r.2.ok _ m
  cases s with
  | some v => exact ⟨v, e, m⟩
  | none => cases o <;> exact c.elim
/-- slot i and the rest -/
theorem Rel.take {i : Nat} {c : Cell} (r : Rel G g ρ σ T H) (h : ρ[i]? = some c) :
    ∃ s L, σ[i]? = some s ∧ RelL G g ((c, s) :: (L ++ T)) H ∧ ∀ c' s' T' H', RelL G g ((c', s') :: (L ++ T')) H' → Rel G g (ρ.set i c') (σ.set i s') T' H' := by
  obtain ⟨s, e, _⟩ := r.at h
  obtain ⟨L, p1, _⟩ := zip_set (c' := c) (s' := s) h e
  refine ⟨s, L, e, r.2.perm (p1.append_right T), fun c' s' T' H' q => ⟨by rw [List.length_set, List.length_set]; exact r.1, ?_⟩⟩
  obtain ⟨L2, q1, q2⟩ := zip_set (c' := c') (s' := s') h e
  have hL : L.Perm L2 := (List.perm_cons _).mp (p1.symm.trans q1)
  exact q.perm (((hL.append_right T').cons _).trans (q2.append_right T').symm)
theorem set_self {α : Type} {l : List α} {i : Nat} {x : α} (h : l[i]? = some x) : l.set i x = l := by
  obtain ⟨hi, rfl⟩ := List.getElem?_eq_some_iff.mp h
  exact List.set_getElem_self hi
/-- .. where the slot's value stays -/
theorem Rel.take' {i : Nat} {c : Cell} (r : Rel G g ρ σ T H) (h : ρ[i]? = some c) :
    ∃ s L, σ[i]? = some s ∧ RelL G g ((c, s) :: (L ++ T)) H ∧ ∀ c' T' H', RelL G g ((c', s) :: (L ++ T')) H' → Rel G g (ρ.set i c') σ T' H' := by
  obtain ⟨s, L, e, q, k⟩ := r.take h
  refine ⟨s, L, e, q, fun c' T' H' z => ?_⟩
  have := k c' s T' H' z
  rw [set_self e] at this
  exact this
theorem Rel.mk' (e : ρ.length = σ.length) (r : RelL G g (ρ.zip σ ++ T) H) : Rel G g ρ σ T H := ⟨e, r⟩
theorem mid_perm (p : Cell × Option V) (L T : Tmp) : (L ++ p :: T).Perm (p :: (L ++ T)) := List.perm_middle
theorem Rel.head {p : Cell × Option V} (r : Rel G g ρ σ (p :: T) H) : RelL G g (p :: (ρ.zip σ ++ T)) H := r.2.perm (mid_perm _ _ _)
theorem Rel.of_head {p : Cell × Option V} (e : ρ.length = σ.length) (r : RelL G g (p :: (ρ.zip σ ++ T)) H) : Rel G g ρ σ (p :: T) H := ⟨e, r.perm (mid_perm _ _ _).symm⟩
theorem Rel.pop {p : Cell × Option V} (r : Rel G g ρ σ (p :: T) H) : Rel G g ρ σ T H := ⟨r.1, r.head.tail⟩
theorem Rel.frz {v : V} {o : Bool} {b : Option Nat} {d : D} (r : Rel G g ρ σ ((.c o b d, some v) :: T) H) : Rel G g ρ σ ((vl d, some v) :: T) H := .of_head r.1 r.head.val
theorem Rel.push {v : V} {d : D} (r : Rel G g ρ σ T H) (k : Rep G (· ∈ owns (ρ.zip σ ++ T)) H v d) : Rel G g ρ σ ((vl d, some v) :: T) H := .of_head r.1 (r.2.push k)
end
end Sm

set_option Elab.async false
set_option linter.all false
set_option maxRecDepth 100000
/-! Sm, part B: expressions. -/
namespace Sm
open PySem PySem.Spec PyProof.Rows L2

inductive ER where
  | ok (c : Cell) (ρ : Env)
  | exc (e : Nat) (ρ : Env)
  | stk
abbrev DE := Env → ER
/-- an operand: a name that is looked at when the operation is done, or an expression -/
inductive Opd where
  | nm (i : Nat)
  | ex (d : DE)
inductive AR where
  | ok (cs : List (Option Cell)) (ρ : Env)
  | exc (e : Nat) (ρ : Env)
  | stk
def evO : List Opd → Env → AR
  | [], ρ => .ok [] ρ
  | .nm i :: os, ρ => match ρ[i]? with
    | some (.c _ _ _) => match evO os ρ with
      | .ok cs ρ' => .ok (none :: cs) ρ'
      | .exc e ρ' => .exc e ρ'
      | .stk => .stk
    | _ => .stk
  | .ex d :: os, ρ => match d ρ with
    | .ok c ρ1 => match evO os ρ1 with
      | .ok cs ρ' => .ok (some c :: cs) ρ'
      | .exc e ρ' => .exc e ρ'
      | .stk => .stk
    | .exc e ρ1 => .exc e ρ1
    | .stk => .stk
def lookO (ρ : Env) : List Opd → List (Option Cell) → Option (List D)
  | [], [] => some []
  | .nm i :: os, none :: cs => match ρ[i]?, lookO ρ os cs with
    | some (.c _ _ d), some ds => some (d :: ds)
    | _, _ => none
  | .ex _ :: os, some (.c _ _ d) :: cs => match lookO ρ os cs with
    | some ds => some (d :: ds)
    | none => none
  | _, _ => none
inductive AV where
  | ok (ds : List D) (ρ : Env)
  | exc (e : Nat) (ρ : Env)
  | stk
def evD (os : List Opd) (ρ : Env) : AV := match evO os ρ with
  | .ok cs ρ' => match lookO ρ' os cs with
    | some ds => .ok ds ρ'
    | none => .stk
  | .exc e ρ' => .exc e ρ'
  | .stk => .stk
/-- an operation that changes nothing and keeps no operand -/
def eOp (f : List D → Option Cell) (os : List Opd) : DE := fun ρ => match evD os ρ with
  | .ok ds ρ' => match f ds with
    | some c => .ok c ρ'
    | none => .stk
  | .exc e ρ' => .exc e ρ'
  | .stk => .stk

def EPost (G : Gam) (g : Nat → V) (σ : L2.St) (T : Tmp) (Q : VK) (W : WX) : ER → Prop
  | .ok c ρ' => ∀ v H', Rel G g ρ' σ ((c, some v) :: T) H' → Q v H'
  | .exc e ρ' => ∀ H', Rel G g ρ' σ T H' → W (.ref (G.cls e)) none σ H'
  | .stk => False
/-- the reading of an expression with the denotation d -/
def tE (G : Gam) (W : WX) (d : DE) : TE := fun σ H Q => ∃ g ρ T, Rel G g ρ σ T H ∧ EPost G g σ T Q W (d ρ)
def tO (G : Gam) (W : WX) : Opd → TE
  | .nm i => tVar i
  | .ex d => tE G W d
def tOs (G : Gam) (W : WX) : List Opd → TA
  | [] => tNil
  | o :: os => tCons (tO G W o) (tOs G W os)

section
variable {X : Cx} {e : Expr}
theorem _root_.L2.PE.weak {t t' : TE} (h : PE X e t) (w : ∀ σ H Q, t' σ H Q → t σ H Q) : PE X e t' := ⟨fun pins s σ H Q I q => h.run pins s σ H Q I (w σ H Q q)⟩
end
section
variable {G : Gam} {g : Nat → V} {W : WX} {σ : L2.St} {T : Tmp} {H : Hp} {ρ : Env}
theorem EPost.mono {Q Q' : VK} {r : ER} (h : ∀ v H, Q v H → Q' v H) (k : EPost G g σ T Q W r) : EPost G g σ T Q' W r := by
  cases r with
  | ok c ρ' => exact fun v H' q => h _ _ (k v H' q)
  | exc e ρ' => exact k
  | stk => exact k
theorem tE.mono {d : DE} {Q Q' : VK} (h : ∀ v H, Q v H → Q' v H) (k : tE G W d σ H Q) : tE G W d σ H Q' := by
  obtain ⟨g, ρ, T, r, k⟩ := k
  exact ⟨g, ρ, T, r, k.mono h⟩
theorem tO.mono {o : Opd} {Q Q' : VK} (h : ∀ v H, Q v H → Q' v H) (k : tO G W o σ H Q) : tO G W o σ H Q' := by
  cases o with
  | nm i => obtain ⟨v, e, q⟩ := k; exact ⟨v, e, h _ _ q⟩
  | ex d => exact tE.mono h k
inductive Argd (σ : L2.St) : List Opd → List (Option Cell) → List V → Tmp → Prop
  | nil : Argd σ [] [] [] []
  | nm {i : Nat} {v : V} {os cs vs M} : σ[i]? = some (some v) → Argd σ os cs vs M → Argd σ (.nm i :: os) (none :: cs) (v :: vs) M
  | ex {d : DE} {c : Cell} {v : V} {os cs vs M} : Argd σ os cs vs M → Argd σ (.ex d :: os) (some c :: cs) (v :: vs) (M ++ [(c, some v)])
def APost (G : Gam) (g : Nat → V) (σ : L2.St) (T M0 : Tmp) (os : List Opd) (Q : List V → Hp → Prop) (W : WX) : AR → Prop
  | .ok cs ρ' => ∀ vs H' M, Rel G g ρ' σ (M ++ (M0 ++ T)) H' → Argd σ os cs vs M → Q vs H'
  | .exc e ρ' => ∀ H', Rel G g ρ' σ T H' → W (.ref (G.cls e)) none σ H'
  | .stk => False
theorem Rel.dropM {M : Tmp} (r : Rel G g ρ σ (M ++ T) H) : Rel G g ρ σ T H := by
  induction M with
  | nil => exact r
  | cons p M ih => exact ih r.pop
theorem tOs_run : ∀ (os : List Opd) (ρ : Env) (M0 : Tmp) (H : Hp) (Q : List V → Hp → Prop), Rel G g ρ σ (M0 ++ T) H → APost G g σ T M0 os Q W (evO os ρ) → tOs G W os σ H Q
  | [], ρ, M0, H, Q, r, h => h [] H [] r .nil
  | .nm i :: os, ρ, M0, H, Q, r, h => by
    unfold evO at h
    cases e : ρ[i]? with
    | none => rw [e] at h; exact h.elim
    | some c =>
      rw [e] at h
      cases c with
      | emp => exact h.elim
      | c o b d =>
        obtain ⟨v, ev, _⟩ := r.val_at e
        refine ⟨v, ev, tOs_run os ρ M0 H _ r ?_⟩
        simp only at h
        cases q : evO os ρ with
        | ok cs ρ' => rw [q] at h; exact fun vs H' M r' a => h _ H' M r' (.nm ev a)
        | exc e ρ' => rw [q] at h; exact h
        | stk => rw [q] at h; exact h
  | .ex d :: os, ρ, M0, H, Q, r, h => by
    unfold evO at h
    refine ⟨g, ρ, M0 ++ T, r, ?_⟩
    cases e : d ρ with
    | stk => rw [e] at h; exact h.elim
    | exc n ρ1 => rw [e] at h; exact fun H' r' => h H' r'.dropM
    | ok c ρ1 =>
      rw [e] at h
      intro v H1 r1
      refine tOs_run os ρ1 ((c, some v) :: M0) H1 _ r1 ?_
      simp only at h
      cases q : evO os ρ1 with
      | ok cs ρ' =>
        rw [q] at h
        intro vs H' M r' a
        refine h _ H' (M ++ [(c, some v)]) ?_ (.ex a)
        rw [List.append_assoc]
        exact r'
      | exc e ρ' => rw [q] at h; exact h
      | stk => rw [q] at h; exact h
inductive Views (G : Gam) (A : Addr → Prop) (H : Hp) : List V → List D → Prop
  | nil : Views G A H [] []
  | cons {v d vs ds} : View G A H v d → Views G A H vs ds → Views G A H (v :: vs) (d :: ds)
theorem views_of {L : Tmp} (r : RelL G g L H) (hz : ∀ p ∈ ρ.zip σ, p ∈ L) : ∀ {os cs vs M ds}, Argd σ os cs vs M → (∀ p ∈ M, p ∈ L) → lookO ρ os cs = some ds → Views G (· ∈ owns L) H vs ds
  | _, _, _, _, ds, .nil, _, e => by cases e; exact .nil
  | _, _, _, _, ds, .nm (i := i) (os := os) (cs := cs) ev a, hM, e => by
    unfold lookO at e
    cases q : ρ[i]? with
    | none => rw [q] at e; cases e
    | some c =>
      rw [q] at e
      cases c with
      | emp => cases e
      | c o b d =>
        cases q2 : lookO ρ os cs with
        | none => rw [q2] at e; cases e
        | some ds' =>
          rw [q2] at e
          cases e
          exact .cons (r.view (hz _ (zip_mem q ev))) (views_of r hz a hM q2)
  | _, _, _, _, ds, .ex (c := c) (v := v) (os := os) (cs := cs) a, hM, e => by
    cases c with
    | emp => unfold lookO at e; cases e
    | c o b d =>
      unfold lookO at e
      cases q2 : lookO ρ os cs with
      | none => rw [q2] at e; cases e
      | some ds' =>
        rw [q2] at e
        cases e
        exact .cons (r.view (hM _ (List.mem_append_right _ List.mem_cons_self))) (views_of r hz a (fun p hp => hM p (List.mem_append_left _ hp)) q2)
/-- what an operation's rule may be asked at -/
def RuleFor (G : Gam) (r : List V → Hp → VK → Prop) (f : List D → Option Cell) : Prop :=
  ∀ (g : Nat → V) (L : Tmp) (H : Hp) (vs : List V) (ds : List D) (c : Cell) (Q : VK), RelL G g L H → Views G (· ∈ owns L) H vs ds → f ds = some c → (∀ v H', RelL G g ((c, some v) :: L) H' → Q v H') → r vs H Q
def AskAt (G : Gam) (f : List D → Option Cell) (Q : VK) (vs : List V) (H : Hp) : Prop :=
  ∃ g L ds c, RelL G g L H ∧ Views G (· ∈ owns L) H vs ds ∧ f ds = some c ∧ ∀ v H', RelL G g ((c, some v) :: L) H' → Q v H'
theorem eOp_args {f : List D → Option Cell} {os : List Opd} {Q : VK} (h : tE G W (eOp f os) σ H Q) : tOs G W os σ H (AskAt G f Q) := by
  obtain ⟨g, ρ, T, r, h⟩ := h
  refine tOs_run (T := T) os ρ [] H _ r ?_
  unfold eOp evD at h
  cases e : evO os ρ with
  | stk => rw [e] at h; exact h
  | exc n ρ' => rw [e] at h; exact h
  | ok cs ρ' =>
    rw [e] at h
    intro vs H' M r' a
    simp only at h
    cases q : lookO ρ' os cs with
    | none => rw [q] at h; exact h.elim
    | some ds =>
      rw [q] at h
      simp only at h
      cases q2 : f ds with
      | none => rw [q2] at h; exact h.elim
      | some c =>
        rw [q2] at h
        have r'' : Rel G g ρ' σ (M ++ T) H' := r'
        refine ⟨g, _, ds, c, r''.2, views_of r''.2 (fun p hp => List.mem_append_left _ hp) a (fun p hp => List.mem_append_right _ (List.mem_append_left _ hp)) q, q2, fun v H'' rr => h v H'' ?_⟩
        have p2 : ((c, some v) :: (ρ'.zip σ ++ (M ++ T))).Perm (ρ'.zip σ ++ (M ++ ((c, some v) :: T))) := by
          refine List.Perm.trans ?_ (List.Perm.append_left _ (mid_perm _ _ _).symm)
          exact (mid_perm _ _ _).symm
        have r3 : Rel G g ρ' σ (M ++ ((c, some v) :: T)) H'' := ⟨r''.1, rr.perm p2⟩
        exact r3.dropM
theorem RuleFor.at {r : List V → Hp → VK → Prop} {f : List D → Option Cell} (k : RuleFor G r f) {Q : VK} {vs : List V} (h : AskAt G f Q vs H) : r vs H Q := by
  obtain ⟨g, L, ds, c, rl, vw, e, q⟩ := h
  exact k g L H vs ds c Q rl vw e q
theorem tOs_mono {os : List Opd} {Q Q' : List V → Hp → Prop} (h : ∀ vs H, Q vs H → Q' vs H) : tOs G W os σ H Q → tOs G W os σ H Q' := by
  induction os generalizing H Q Q' with
  | nil => exact h [] H
  | cons o os ih => exact fun k => tO.mono (fun v H1 q => ih (fun vs H2 z => h _ _ z) q) k
end

/-! ### the rules -/
section
variable {X : Cx} {G : Gam} {W : WX} {a b : Expr} {o p : Opd} {pos : Pos}
/-- a binary operation -/
theorem se_op {op : Operator} {r : R2} {f : List D → Option Cell} (ho : OpR X (binaryOp op) r) (k : RuleFor G (fun vs H Q => ∀ x y, vs = [x, y] → r x y H Q) f) (ha : PE X a (tO G W o)) (hb : PE X b (tO G W p)) :
    PE X (.BinOp a op b pos) (tE G W (eOp f [o, p])) :=
  (pe_op ho ha hb).weak fun σ H Q h => tO.mono (fun x H1 q => tO.mono (fun y H2 q2 => k.at q2 x y rfl) q) (eOp_args h)
theorem se_un {op : UnaryOp} {r : V → Hp → VK → Prop} {f : List D → Option Cell} (ho : UnR X (unaryOp op) r) (k : RuleFor G (fun vs H Q => ∀ x, vs = [x] → r x H Q) f) (ha : PE X a (tO G W o)) :
    PE X (.UnaryOp op a pos) (tE G W (eOp f [o])) :=
  (pe_un ho ha).weak fun σ H Q h => tO.mono (fun x H1 q => k.at q x rfl) (eOp_args h)
theorem se_cmp {op : CmpOp} {r : R2} {f : List D → Option Cell} (ho : OpR X (compareOp op) r) (k : RuleFor G (fun vs H Q => ∀ x y, vs = [x, y] → r x y H Q) f) (ha : PE X a (tO G W o)) (hb : PE X b (tO G W p)) (hm : behindInMarks op b = false) :
    PE X (.Compare a [op] [b] pos) (tE G W (eOp f [o, p])) :=
  (pe_cmpR ho ha hb hm).weak fun σ H Q h => tO.mono (fun x H1 q => tO.mono (fun y H2 q2 => k.at q2 x y rfl) q) (eOp_args h)
theorem se_ix {r : R2} {f : List D → Option Cell} (ho : IxR X r) (k : RuleFor G (fun vs H Q => ∀ x y, vs = [x, y] → r x y H Q) f) (ha : PE X a (tO G W o)) (hb : PE X b (tO G W p)) (hs : PlainIx b) :
    PE X (.Subscript a b pos) (tE G W (eOp f [o, p])) :=
  (pe_ix ho ha hb hs).weak fun σ H Q h => tO.mono (fun x H1 q => tO.mono (fun y H2 q2 => k.at q2 x y rfl) q) (eOp_args h)
/-- arguments -/
theorem as_nil : PA X [] (tOs G W []) := pa_nil
theorem as_cons {e : Expr} {es : List Expr} {os : List Opd} (ha : PE X e (tO G W o)) (hr : PA X es (tOs G W os)) (hs : starEach (e :: es) X.env = (false, eval e X.env) :: starEach es X.env := by rfl) : PA X (e :: es) (tOs G W (o :: os)) := pa_cons ha hr hs
theorem _root_.L2.PA.weak {es : List Expr} {t t' : TA} (h : PA X es t) (w : ∀ σ H Q, t' σ H Q → t σ H Q) : PA X es t' := ⟨fun pos pins s σ H Q I q => h.run pos pins s σ H Q I (w σ H Q q)⟩
theorem se_callB {x : Str} {id : String} {e : Expr} {es : List Expr} {ep : Pos} {os : List Opd} {r : List V → Hp → VK → Prop} {f : List D → Option Cell} (hc : CallR X (.builtin id) r) (k : RuleFor G r f)
    (hg : Gl X x) (hm : X.mg x = none) (hv : bootBuiltins x = some (.builtin id)) (ha : PA X (e :: es) (tOs G W os)) (hn : x ≠ "__name__" := by decide) (hdb : (x == ("__debug__" : Str)) = false := by decide)
    (he : starEach (e :: es) X.env = (false, eval e X.env) :: starEach es X.env := by rfl) (hpl : (backTo pos (starEach es X.env)).any (·.1) = false := by rfl) :
    PE X (.Call (.Name x ep) (e :: es) [] pos) (tE G W (eOp f os)) :=
  (pe_callB hc hg hm hv ha hn hdb he hpl).weak fun σ H Q h => tOs_mono (fun vs H1 q => k.at q) (eOp_args h)
theorem se_callT {x : Str} {T : String} {e : Expr} {es : List Expr} {ep : Pos} {os : List Opd} {r : List V → Hp → VK → Prop} {f : List D → Option Cell} (hc : CallR X (.type T) r) (k : RuleFor G r f)
    (hg : Gl X x) (hm : X.mg x = none) (hv : bootBuiltins x = some (.type T)) (ha : PA X (e :: es) (tOs G W os)) (hn : x ≠ "__name__" := by decide) (hdb : (x == ("__debug__" : Str)) = false := by decide)
    (he : starEach (e :: es) X.env = (false, eval e X.env) :: starEach es X.env := by rfl) (hpl : (backTo pos (starEach es X.env)).any (·.1) = false := by rfl) :
    PE X (.Call (.Name x ep) (e :: es) [] pos) (tE G W (eOp f os)) :=
  (pe_callTy hc hg hm hv ha hn hdb he hpl).weak fun σ H Q h => tOs_mono (fun vs H1 q => k.at q) (eOp_args h)
/-- an operand that is a name -/
theorem so_nm {i : Nat} {e : Expr} (h : PE X e (tVar i)) : PE X e (tO G W (.nm i)) := h
theorem so_ex {d : DE} {e : Expr} (h : PE X e (tE G W d)) : PE X e (tO G W (.ex d)) := h
end

/-! ### names and constants -/
/-- a name whose value goes on: what it owns is a value from now on -/
def eVar (i : Nat) : DE := fun ρ => match ρ[i]? with
  | some (.c false _ d) => .ok (vl d) ρ
  | some (.c true b d) => .ok (vl d) (ρ.set i (.c false b d))
  | _ => .stk
def eC (d : D) : DE := fun ρ => .ok (vl d) ρ
section
variable {X : Cx} {G : Gam} {W : WX} {e : Expr}
theorem se_var {i : Nat} (h : PE X e (tVar i)) : PE X e (tE G W (eVar i)) := h.weak fun σ H Q q => by
  obtain ⟨g, ρ, T, r, q⟩ := q
  unfold eVar at q
  cases e : ρ[i]? with
  | none => rw [e] at q; exact q.elim
  | some c =>
    rw [e] at q
    cases c with
    | emp => exact q.elim
    | c o b d =>
      obtain ⟨v, ev, hm⟩ := r.val_at e
      refine ⟨v, ev, ?_⟩
      cases o with
      | false =>
        refine q v H (r.push ?_)
        have c := r.2.ok _ hm
        exact c.2
      | true =>
        obtain ⟨s, L, es, r1, k⟩ := r.take' e
        rw [ev] at es
        cases es
        refine q v H ?_
        have r2 := r1.valT (b' := b) fun _ z => z
        have r3 := k (.c false b d) ((vl d, some v) :: T) H ?_
        · exact r3
        · have r4 : RelL G g ((vl d, some v) :: (Cell.c false b d, some v) :: (L ++ T)) H := by
            refine r2.push ?_
            have c := r2.rep
            have e2 : owns ((Cell.c false b d, some v) :: (L ++ T)) = owns (L ++ T) := by rw [owns_cons]; rfl
            rw [e2]
            exact c
          refine r4.perm ?_
          refine (List.Perm.swap ..).trans (List.Perm.cons _ (mid_perm _ _ _).symm)
theorem se_const {v : V} {d : D} (h : PE X e (tC v)) (k : ∀ A H, Rep G A H v d) : PE X e (tE G W (eC d)) := h.weak fun σ H Q q => by
  obtain ⟨g, ρ, T, r, q⟩ := q
  exact q v H (r.push (k _ _))
theorem se_int {i : Int} {j : Nat} {pos : Pos} : PE X (.Constant (.int i) j pos) (tE G W (eC (.int i))) := se_const pe_int fun _ _ => .int i
theorem se_bl {i : Bool} {j : Nat} {pos : Pos} : PE X (.Constant (.bool i) j pos) (tE G W (eC (.bl i))) := se_const pe_bl fun _ _ => .bl i
theorem se_non {j : Nat} {pos : Pos} : PE X (.Constant .none j pos) (tE G W (eC .non)) := se_const pe_non fun _ _ => .non
theorem se_str {x : Str} {j : Nat} {pos : Pos} (h : txtOk x = true := by decide +kernel) : PE X (.Constant (.str x) j pos) (tE G W (eC (.str x))) := se_const pe_str fun _ _ => .str x h
end

/-! ### displays -/
/-- all operands are expressions; what they own is given away -/
def allD : List (Option Cell) → Option (List D)
  | [] => some []
  | some (.c _ _ d) :: cs => match allD cs with
    | some ds => some (d :: ds)
    | none => none
  | _ => none
def eSeq (mk : List D → Option Cell) (ds : List DE) : DE := fun ρ => match evO (ds.map .ex) ρ with
  | .ok cs ρ' => match allD cs with
    | some xs => match mk xs with
      | some c => .ok c ρ'
      | none => .stk
    | none => .stk
  | .exc e ρ' => .exc e ρ'
  | .stk => .stk
def SZ : Nat := 16777216
theorem SZ_eq : SZ = sizeLine := by decide
def mkTup (xs : List D) : Option Cell := if xs.length ≤ SZ then some (vl (.tup xs)) else none
def mkLst (xs : List D) : Option Cell := if xs.length ≤ SZ then some (ow (.lst xs)) else none
section
variable {X : Cx} {G : Gam} {W : WX} {σ : L2.St} {T : Tmp} {H : Hp} {ρ : Env}
/-- operands that are all expressions: their trees, frozen -/
theorem frozen : ∀ {os cs vs M xs L}, Argd σ os cs vs M → allD cs = some xs → RelL G g (M ++ L) H → RelL G g L H ∧ Reps G (· ∈ owns L) H vs xs
  | _, _, _, _, xs, L, .nil, e, r => by cases e; exact ⟨r, .nil⟩
  | _, _, _, _, xs, L, .nm ev a, e, r => by unfold allD at e; cases e
  | _, _, _, _, xs, L, .ex (c := c) (v := v) (cs := cs) a, e, r => by
    cases c with
    | emp => unfold allD at e; cases e
    | c o b d =>
      unfold allD at e
      cases q : allD cs with
      | none => rw [q] at e; cases e
      | some xs' =>
        rw [q] at e
        cases e
        rw [List.append_assoc] at r
        obtain ⟨r1, k⟩ := frozen (L := (Cell.c o b d, some v) :: L) a q r
        have r2 := r1.val
        have e2 : owns ((vl d, some v) :: L) = owns L := by rw [owns_cons]; rfl
        refine ⟨r1.tail, .cons r2.rep (k.mono fun x u h n => ⟨h, fun z => n ?_⟩)⟩
        obtain ⟨b', d', hm⟩ := mem_owns.mp z
        exact mem_owns.mpr ⟨b', d', List.mem_cons_of_mem _ hm⟩
theorem eSeq_args {mk : List D → Option Cell} {ds : List DE} {Q : VK} (h : tE G W (eSeq mk ds) σ H Q) :
    tOs G W (ds.map .ex) σ H fun vs H1 => ∃ g L xs c, RelL G g L H1 ∧ Reps G (· ∈ owns L) H1 vs xs ∧ mk xs = some c ∧ ∀ v H', RelL G g ((c, some v) :: L) H' → Q v H' := by
  obtain ⟨g, ρ, T, r, h⟩ := h
  refine tOs_run (T := T) (ds.map .ex) ρ [] H _ r ?_
  unfold eSeq at h
  cases e : evO (ds.map .ex) ρ with
  | stk => rw [e] at h; exact h
  | exc n ρ' => rw [e] at h; exact h
  | ok cs ρ' =>
    rw [e] at h
    intro vs H' M r' a
    simp only at h
    cases q : allD cs with
    | none => rw [q] at h; exact h.elim
    | some xs =>
      rw [q] at h
      simp only at h
      cases q2 : mk xs with
      | none => rw [q2] at h; exact h.elim
      | some c =>
        rw [q2] at h
        have r'' : RelL G g (M ++ (ρ'.zip σ ++ T)) H' := by
          refine r'.2.perm ?_
          show (ρ'.zip σ ++ (M ++ T)).Perm _
          rw [← List.append_assoc, ← List.append_assoc]
          exact List.Perm.append_right _ List.perm_append_comm
        obtain ⟨r1, k⟩ := frozen a q r''
        exact ⟨g, _, xs, c, r1, k, q2, fun v H'' rr => h v H'' (.of_head r'.1 rr)⟩
theorem se_tup {es : List Expr} {ds : List DE} {x1 : Nat} {pos : Pos} (h : PA X es (tOs G W (ds.map .ex))) : PE X (.Tuple es x1 pos) (tE G W (eSeq mkTup ds)) :=
  (pe_tup h).weak fun σ H Q q => tOs_mono (fun vs H1 ⟨g, L, xs, c, r, k, e, q⟩ => by
    unfold mkTup at e
    split at e
    · rename_i hz
      cases e
      refine ⟨by rw [k.length, ← SZ_eq]; exact hz, fun p hp => q _ _ (r.newTup hp k)⟩
    · cases e) (eSeq_args q)
theorem se_lst {es : List Expr} {ds : List DE} {pos : Pos} (h : PA X es (tOs G W (ds.map .ex))) : PE X (.List es pos) (tE G W (eSeq mkLst ds)) :=
  (pe_lst h).weak fun σ H Q q => tOs_mono (fun vs H1 ⟨g, L, xs, c, r, k, e, q⟩ => by
    unfold mkLst at e
    split at e
    · rename_i hz
      cases e
      refine ⟨by rw [k.length, ← SZ_eq]; exact hz, fun p hp => q _ _ (r.newLst hp k)⟩
    · cases e) (eSeq_args q)
theorem as_ex_nil : PA X [] (tOs G W (([] : List DE).map .ex)) := pa_nil
theorem as_ex {e : Expr} {es : List Expr} {d : DE} {ds : List DE} (ha : PE X e (tE G W d)) (hr : PA X es (tOs G W (ds.map .ex))) (hs : starEach (e :: es) X.env = (false, eval e X.env) :: starEach es X.env := by rfl) : PA X (e :: es) (tOs G W ((d :: ds).map .ex)) := pa_cons ha hr hs
end
end Sm

set_option Elab.async false
set_option linter.all false
set_option maxRecDepth 100000
/-! Sm, part C: the operations' rules. -/
namespace Sm
open PySem PySem.Spec PyProof.Rows L2

/-! ### equality of trees -/
mutual
def D.eqv : D → D → Bool
  | .non, .non => true
  | .bl a, .bl b => a == b
  | .bl a, .int j => (if a then 1 else 0) == j
  | .int i, .bl b => i == (if b then 1 else 0)
  | .int i, .int j => i == j
  | .str x, .str y => x == y
  | .lst xs, .lst ys => D.eqvs xs ys
  | .lst xs, .frl ys => D.eqvs xs ys
  | .frl xs, .lst ys => D.eqvs xs ys
  | .frl xs, .frl ys => D.eqvs xs ys
  | .tup xs, .tup ys => D.eqvs xs ys
  | _, _ => false
def D.eqvs : List D → List D → Bool
  | [], [] => true
  | x :: xs, y :: ys => D.eqv x y && D.eqvs xs ys
  | _, _ => false
end
mutual
def D.plain : D → Bool
  | .dct _ => false
  | .exc _ => false
  | .lst xs => D.plains xs
  | .frl xs => D.plains xs
  | .tup xs => D.plains xs
  | _ => true
def D.plains : List D → Bool
  | [] => true
  | x :: xs => D.plain x && D.plains xs
end
mutual
def D.depth : D → Nat
  | .lst xs => D.depths xs + 1
  | .frl xs => D.depths xs + 1
  | .tup xs => D.depths xs + 1
  | _ => 0
def D.depths : List D → Nat
  | [] => 0
  | x :: xs => max (D.depth x) (D.depths xs)
end
mutual
def D.pd : D → PyData
  | .non => .none
  | .bl b => .bool b
  | .int i => .int i
  | .str s => .str s
  | .lst xs => .list (D.pds xs)
  | .frl xs => .list (D.pds xs)
  | .tup xs => .tuple (D.pds xs)
  | .dct _ => .none
  | .exc _ => .none
def D.pds : List D → List PyData
  | [] => []
  | x :: xs => D.pd x :: D.pds xs
end
mutual
theorem D.depth_pd : ∀ x : D, (D.pd x).depth = D.depth x
  | .non => by simp only [D.pd, D.depth, PyData.depth]
  | .bl b => by simp only [D.pd, D.depth, PyData.depth]
  | .int i => by simp only [D.pd, D.depth, PyData.depth]
  | .str s => by simp only [D.pd, D.depth, PyData.depth]
  | .lst xs => by simp only [D.pd, D.depth, PyData.depth, D.depth_pds xs]
  | .frl xs => by simp only [D.pd, D.depth, PyData.depth, D.depth_pds xs]
  | .tup xs => by simp only [D.pd, D.depth, PyData.depth, D.depth_pds xs]
  | .dct _ => by simp only [D.pd, D.depth, PyData.depth]
  | .exc _ => by simp only [D.pd, D.depth, PyData.depth]
theorem D.depth_pds : ∀ xs : List D, PyData.depthAll (D.pds xs) = D.depths xs
  | [] => by simp only [D.pds, D.depths, PyData.depthAll]
  | x :: xs => by simp only [D.pds, D.depths, PyData.depthAll, D.depth_pd x, D.depth_pds xs]
end
mutual
theorem D.eqv_pd : ∀ x y : D, D.plain x = true → D.plain y = true → PyData.eqv (D.pd x) (D.pd y) = D.eqv x y := fun x y hx hy => by
  cases x <;> cases y <;> (try (simp only [D.pd, D.eqv, PyData.eqv]; done)) <;> (try (simp only [D.plain] at hx; cases hx; done)) <;> (try (simp only [D.plain] at hy; cases hy; done))
  all_goals
    simp only [D.pd, D.eqv, PyData.eqv]
    simp only [D.plain] at hx hy
    exact D.eqv_pds _ _ hx hy
theorem D.eqv_pds : ∀ xs ys : List D, D.plains xs = true → D.plains ys = true → PyData.eqvAll (D.pds xs) (D.pds ys) = D.eqvs xs ys
  | [], [], _, _ => by simp only [D.pds, D.eqvs, PyData.eqvAll]
  | [], _ :: _, _, _ => by simp only [D.pds, D.eqvs, PyData.eqvAll]
  | _ :: _, [], _, _ => by simp only [D.pds, D.eqvs, PyData.eqvAll]
  | x :: xs, y :: ys, hx, hy => by
    simp only [D.plains, Bool.and_eq_true] at hx hy
    simp only [D.pds, D.eqvs, PyData.eqvAll, D.eqv_pd x y hx.1 hy.1, D.eqv_pds xs ys hx.2 hy.2]
end
section
variable {G : Gam} {A : Addr → Prop} {H : Hp}
mutual
theorem Rep.dp : ∀ (d : D) (v : V), Rep G A H v d → D.plain d = true → Dp G.K H v (D.pd d) ∧ (D.pd d).canLay0 = true
  | .non, _, r, p => by cases r; simp only [D.pd]; exact ⟨.non, by simp [PyData.canLay0]⟩
  | .bl b, _, r, p => by cases r; simp only [D.pd]; exact ⟨.bl b, by simp [PyData.canLay0]⟩
  | .int b, _, r, p => by cases r; simp only [D.pd]; exact ⟨.int b, by simp [PyData.canLay0]⟩
  | .str b, _, r, p => by
    cases r with
    | str _ k => simp only [D.pd]; exact ⟨.str b, by simpa [PyData.canLay0, PyData.strOk, txtOk] using k⟩
  | .lst xs, _, r, p => by
    cases r with
    | lst q r =>
      simp only [D.plain] at p
      obtain ⟨k1, k2⟩ := Reps.dp xs _ r p
      simp only [D.pd]
      exact ⟨.lst (SqL.of q.1) k1, by simpa [PyData.canLay0] using k2⟩
  | .frl xs, _, r, p => by
    cases r with
    | frl q r =>
      simp only [D.plain] at p
      obtain ⟨k1, k2⟩ := Reps.dp xs _ r p
      simp only [D.pd]
      refine ⟨.lst ?_ k1, by simpa [PyData.canLay0] using k2⟩
      rcases q with ⟨q, _⟩ | q
      · exact .inl q
      · exact .inr q
  | .tup xs, _, r, p => by
    cases r with
    | tup q r =>
      simp only [D.plain] at p
      obtain ⟨k1, k2⟩ := Reps.dp xs _ r p
      simp only [D.pd]
      refine ⟨.tup ?_ k1, by simpa [PyData.canLay0] using k2⟩
      rcases q with ⟨q, _⟩ | q
      · exact .inl q
      · exact .inr q
  | .dct _, _, r, p => by simp only [D.plain] at p; cases p
  | .exc _, _, r, p => by simp only [D.plain] at p; cases p
theorem Reps.dp : ∀ (ds : List D) (vs : List V), Reps G A H vs ds → D.plains ds = true → DpAll G.K H vs (D.pds ds) ∧ PyData.canLayAll0 (D.pds ds) = true
  | [], _, r, p => by cases r; simp only [D.pds]; exact ⟨.nil, by simp [PyData.canLayAll0]⟩
  | d :: ds, _, r, p => by
    cases r with
    | cons a b =>
      simp only [D.plains, Bool.and_eq_true] at p
      obtain ⟨h1, h2⟩ := Rep.dp d _ a p.1
      obtain ⟨k1, k2⟩ := Reps.dp ds _ b p.2
      simp only [D.pds]
      exact ⟨.cons h1 k1, by simp [PyData.canLayAll0, h2, k2]⟩
end
theorem View.dp {v : V} {d : D} (w : View G A H v d) (p : D.plain d = true) : Dp G.K H v (D.pd d) ∧ (D.pd d).canLay0 = true := by
  rcases w with w | ⟨a, rfl, _, c⟩
  · exact Rep.dp d v w p
  · cases d with
    | lst ds =>
      obtain ⟨vs, h, r⟩ := c
      simp only [D.plain] at p
      obtain ⟨k1, k2⟩ := Reps.dp ds vs r p
      simp only [D.pd]
      exact ⟨.lst (SqL.of h) k1, by simpa [PyData.canLay0] using k2⟩
    | dct ds => simp only [D.plain] at p; cases p
    | _ => exact c.elim
end
/-! == and != -/
def rEqQ (K : PySem.W.Frag) (neg : Bool) : R2 := fun x y H Q => ∃ d e, Dp K H x d ∧ Dp K H y e ∧ d.canLay0 = true ∧ e.canLay0 = true ∧ min d.depth e.depth ≤ 64 ∧ Q (.bl (if neg then !PyData.eqv d e else PyData.eqv d e)) H
section
variable {X : Cx}
theorem op_eqQ (hu : X.A.units + 64 < cLine) : OpR X (compareOp .Eq) (rEqQ X.K false) := by
  intro pins s σ H x y v u Q I rx ry h
  obtain ⟨d, e, hd, he, sd, se, hz, q⟩ := h
  obtain ⟨as, r1⟩ := Dp.reads I d x v hd rx
  obtain ⟨bs, r2⟩ := Dp.reads I e y u he ry
  exact SeqAt.compareEq_reads r1 r2 sd se (by omega) ⟨.bl _, H, I, rfl, q⟩
theorem op_neQ (hu : X.A.units + 64 < cLine) : OpR X (compareOp .NotEq) (rEqQ X.K true) := by
  intro pins s σ H x y v u Q I rx ry h
  obtain ⟨d, e, hd, he, sd, se, hz, q⟩ := h
  obtain ⟨as, r1⟩ := Dp.reads I d x v hd rx
  obtain ⟨bs, r2⟩ := Dp.reads I e y u he ry
  exact SeqAt.compareNe_reads r1 r2 sd se (by omega) ⟨.bl _, H, I, rfl, q⟩
end
def eqOk (x y : D) : Bool := D.plain x && D.plain y && decide (min (D.depth x) (D.depth y) ≤ 64)
def fEq : List D → Option Cell
  | [x, y] => if eqOk x y then some (vl (.bl (D.eqv x y))) else none
  | _ => none
def fNe : List D → Option Cell
  | [x, y] => if eqOk x y then some (vl (.bl (!D.eqv x y))) else none
  | _ => none

/-! ### arithmetic -/
def mulOk (i j : Int) : Bool := decide (i.natAbs.log2 + j.natAbs.log2 < 1000000)
def divOk (j : Int) : Bool := decide (0 < j) && decide (j.natAbs.log2 < 9000)
def fAdd : List D → Option Cell
  | [.int i, .int j] => some (vl (.int (i + j)))
  | [.str a, .str b] => if a.length + b.length ≤ SZ then some (vl (.str (a ++ b))) else none
  | [.tup a, .tup b] => if a.length + b.length ≤ SZ then some (vl (.tup (a ++ b))) else none
  | [.lst a, .lst b] => if a.length + b.length ≤ SZ then some (ow (.lst (a ++ b))) else none
  | [.int i, .bl b] => some (vl (.int (i + (if b then 1 else 0))))
  | _ => none
def fSub : List D → Option Cell
  | [.int i, .int j] => some (vl (.int (i - j)))
  | _ => none
def rptD (k : Int) (xs : List D) : List D := (List.replicate k.toNat xs).flatten
def fMul : List D → Option Cell
  | [.int i, .int j] => if mulOk i j then some (vl (.int (i * j))) else none
  | [.lst xs, .int k] => if decide (-(2 ^ 63) ≤ k) && decide (k < 2 ^ 63) && decide (xs.length * k.toNat ≤ SZ) then some (ow (.lst (rptD k xs))) else none
  | [.tup xs, .int k] => if !xs.isEmpty && decide (2 ≤ k) && decide (k ≤ 1000) && decide (xs.length ≤ 1000) then some (vl (.tup (rptD k xs))) else none
  | _ => none
def fFdiv : List D → Option Cell
  | [.int i, .int j] => if divOk j then some (vl (.int (i / j))) else none
  | _ => none
def fMod : List D → Option Cell
  | [.int i, .int j] => if 0 < j then some (vl (.int (i % j))) else none
  | _ => none
def powOk (i j : Int) : Bool := decide (0 ≤ j) && decide (j ≤ 1000000) && decide (i.natAbs < 2 ^ 64)
def fPow : List D → Option Cell
  | [.int i, .int j] => if powOk i j then some (vl (.int (i ^ j.toNat))) else none
  | _ => none
def fShl : List D → Option Cell
  | [.int i, .int j] => if powOk i j then some (vl (.int (i * 2 ^ j.toNat))) else none
  | _ => none
def fShr : List D → Option Cell
  | [.int i, .int j] => if 0 ≤ j then some (vl (.int (i / 2 ^ j.toNat))) else none
  | _ => none
def fXor : List D → Option Cell
  | [.int i, .int j] => some (vl (.int (Builtin.bitXor i j)))
  | _ => none
def fNeg : List D → Option Cell
  | [.int i] => some (vl (.int (-i)))
  | _ => none
def fCmpI (p : Int → Int → Bool) : List D → Option Cell
  | [.int i, .int j] => some (vl (.bl (p i j)))
  | _ => none
abbrev fLt := fCmpI fun i j => decide (i < j)
abbrev fLe := fCmpI fun i j => decide (i ≤ j)
abbrev fGt := fCmpI fun i j => decide (j < i)
abbrev fGe := fCmpI fun i j => decide (j ≤ i)

section
variable {X : Cx} {G : Gam} {g : Nat → V}
theorem Views.two {A : Addr → Prop} {H : Hp} {vs : List V} {x y : D} (w : Views G A H vs [x, y]) : ∃ v u, vs = [v, u] ∧ View G A H v x ∧ View G A H u y := by
  cases w with
  | cons a w => cases w with
    | cons b w => cases w; exact ⟨_, _, rfl, a, b⟩
theorem Views.one {A : Addr → Prop} {H : Hp} {vs : List V} {x : D} (w : Views G A H vs [x]) : ∃ v, vs = [v] ∧ View G A H v x := by
  cases w with
  | cons a w => cases w; exact ⟨_, rfl, a⟩
theorem Views.three {A : Addr → Prop} {H : Hp} {vs : List V} {x y z : D} (w : Views G A H vs [x, y, z]) : ∃ v u t, vs = [v, u, t] ∧ View G A H v x ∧ View G A H u y ∧ View G A H t z := by
  cases w with
  | cons a w => cases w with
    | cons b w => cases w with
      | cons c w => cases w; exact ⟨_, _, _, rfl, a, b, c⟩
theorem push_bl {L : Tmp} {H : Hp} {Q : VK} {b : Bool} (r : RelL G g L H) (q : ∀ v H', RelL G g ((vl (.bl b), some v) :: L) H' → Q v H') : Q (.bl b) H := q _ _ (r.push (.bl b))
theorem push_int {L : Tmp} {H : Hp} {Q : VK} {b : Int} (r : RelL G g L H) (q : ∀ v H', RelL G g ((vl (.int b), some v) :: L) H' → Q v H') : Q (.int b) H := q _ _ (r.push (.int b))
/-- two operands, the rule -/
def Rule2 (G : Gam) (r : R2) (f : List D → Option Cell) : Prop := RuleFor G (fun vs H Q => ∀ x y, vs = [x, y] → r x y H Q) f
def Rule1 (G : Gam) (r : V → Hp → VK → Prop) (f : List D → Option Cell) : Prop := RuleFor G (fun vs H Q => ∀ x, vs = [x] → r x H Q) f
theorem rule2 {r : R2} {f : List D → Option Cell} (hf : ∀ ds, (∀ a b, ds ≠ [a, b]) → f ds = none)
    (k : ∀ g L H v u x y c Q, RelL G g L H → View G (· ∈ owns L) H v x → View G (· ∈ owns L) H u y → f [x, y] = some c → (∀ v H', RelL G g ((c, some v) :: L) H' → Q v H') → r v u H Q) : Rule2 G r f := by
  intro g L H vs ds c Q rl w e q x y hv
  by_cases hd : ∃ a b, ds = [a, b]
  · obtain ⟨a, b, rfl⟩ := hd
    obtain ⟨v, u, rfl, w1, w2⟩ := w.two
    cases hv
    exact k g L H _ _ a b c Q rl w1 w2 e q
  · rw [hf ds fun a b z => hd ⟨a, b, z⟩] at e
    cases e
theorem rule1 {r : V → Hp → VK → Prop} {f : List D → Option Cell} (hf : ∀ ds, (∀ a, ds ≠ [a]) → f ds = none)
    (k : ∀ g L H v x c Q, RelL G g L H → View G (· ∈ owns L) H v x → f [x] = some c → (∀ v H', RelL G g ((c, some v) :: L) H' → Q v H') → r v H Q) : Rule1 G r f := by
  intro g L H vs ds c Q rl w e q x hv
  by_cases hd : ∃ a, ds = [a]
  · obtain ⟨a, rfl⟩ := hd
    obtain ⟨v, rfl, w1⟩ := w.one
    cases hv
    exact k g L H _ a c Q rl w1 e q
  · rw [hf ds fun a z => hd ⟨a, z⟩] at e
    cases e
end
section
variable {X : Cx} {G : Gam} {g : Nat → V}
theorem two_of {f : List D → Option Cell} (h0 : f [] = none) (h1 : ∀ a, f [a] = none) (h3 : ∀ a b c r, f (a :: b :: c :: r) = none) : ∀ ds, (∀ a b, ds ≠ [a, b]) → f ds = none
  | [], _ => h0
  | [a], _ => h1 a
  | [a, b], h => absurd rfl (h a b)
  | a :: b :: c :: r, _ => h3 a b c r
theorem one_of {f : List D → Option Cell} (h0 : f [] = none) (h1 : ∀ a b r, f (a :: b :: r) = none) : ∀ ds, (∀ a, ds ≠ [a]) → f ds = none
  | [], _ => h0
  | [a], h => absurd rfl (h a)
  | a :: b :: r, _ => h1 a b r
theorem k_eq (K : X.K = G.K) : Rule2 G (rEqQ X.K false) fEq := rule2 (two_of rfl (fun _ => rfl) (fun _ _ _ _ => rfl)) fun g L H v u x y c Q r w1 w2 e q => by
  simp only [fEq] at e
  split at e
  · rename_i h
    cases e
    simp only [eqOk, Bool.and_eq_true, decide_eq_true_eq] at h
    obtain ⟨d1, l1⟩ := w1.dp h.1.1
    obtain ⟨d2, l2⟩ := w2.dp h.1.2
    refine ⟨_, _, K ▸ d1, K ▸ d2, l1, l2, by rw [D.depth_pd, D.depth_pd]; exact h.2, ?_⟩
    rw [D.eqv_pd _ _ h.1.1 h.1.2]
    exact push_bl r q
  · cases e
theorem k_ne (K : X.K = G.K) : Rule2 G (rEqQ X.K true) fNe := rule2 (two_of rfl (fun _ => rfl) (fun _ _ _ _ => rfl)) fun g L H v u x y c Q r w1 w2 e q => by
  simp only [fNe] at e
  split at e
  · rename_i h
    cases e
    simp only [eqOk, Bool.and_eq_true, decide_eq_true_eq] at h
    obtain ⟨d1, l1⟩ := w1.dp h.1.1
    obtain ⟨d2, l2⟩ := w2.dp h.1.2
    refine ⟨_, _, K ▸ d1, K ▸ d2, l1, l2, by rw [D.depth_pd, D.depth_pd]; exact h.2, ?_⟩
    rw [D.eqv_pd _ _ h.1.1 h.1.2]
    exact push_bl r q
  · cases e
/-- two ints -/
theorem k_int2 {C : Int → Int → Prop} {g : Int → Int → D} {gv : Int → Int → V} {f : List D → Option Cell} (hf : ∀ ds, (∀ a b, ds ≠ [a, b]) → f ds = none)
    (h : ∀ x y c, f [x, y] = some c → ∃ i j, x = .int i ∧ y = .int j ∧ C i j ∧ c = vl (g i j)) (hg : ∀ A H i j, Rep G A H (gv i j) (g i j)) : Rule2 G (rI C gv) f := rule2 hf fun g L H v u x y c Q r w1 w2 e q => by
  obtain ⟨i, j, rfl, rfl, hc, rfl⟩ := h x y c e
  exact ⟨i, j, w1.int, w2.int, hc, q _ _ (r.push (hg _ _ _ _))⟩
theorem k_int20 {g : Int → Int → D} {gv : Int → Int → V} {f : List D → Option Cell} (hf : ∀ ds, (∀ a b, ds ≠ [a, b]) → f ds = none)
    (h : ∀ x y c, f [x, y] = some c → ∃ i j, x = .int i ∧ y = .int j ∧ c = vl (g i j)) (hg : ∀ A H i j, Rep G A H (gv i j) (g i j)) : Rule2 G (rI0 gv) f := rule2 hf fun g L H v u x y c Q r w1 w2 e q => by
  obtain ⟨i, j, rfl, rfl, rfl⟩ := h x y c e
  exact ⟨i, j, w1.int, w2.int, q _ _ (r.push (hg _ _ _ _))⟩
theorem inv_cmp {p : Int → Int → Bool} : ∀ x y c, fCmpI p [x, y] = some c → ∃ i j, x = .int i ∧ y = .int j ∧ c = vl (.bl (p i j)) := fun x y c e => by
  unfold fCmpI at e
  split at e
  · rename_i i j h
    cases h; cases e
    exact ⟨i, j, rfl, rfl, rfl⟩
  · cases e
theorem two_cmp {p : Int → Int → Bool} : ∀ ds, (∀ a b, ds ≠ [a, b]) → fCmpI p ds = none := two_of rfl (fun a => by cases a <;> rfl) (fun a b _ _ => by cases a <;> cases b <;> rfl)
theorem k_lt : Rule2 G (rI0 fun i j => .bl (decide (i < j))) fLt := k_int20 two_cmp inv_cmp fun _ _ _ _ => .bl _
theorem k_le : Rule2 G (rI0 fun i j => .bl (decide (i ≤ j))) fLe := k_int20 two_cmp inv_cmp fun _ _ _ _ => .bl _
theorem k_gt : Rule2 G (rI0 fun i j => .bl (decide (j < i))) fGt := k_int20 two_cmp inv_cmp fun _ _ _ _ => .bl _
theorem k_ge : Rule2 G (rI0 fun i j => .bl (decide (j ≤ i))) fGe := k_int20 two_cmp inv_cmp fun _ _ _ _ => .bl _
theorem k_sub : Rule2 G (rI0 fun i j => .int (i - j)) fSub := k_int20 (two_of rfl (fun a => by cases a <;> rfl) (fun a b _ _ => by cases a <;> cases b <;> rfl)) (fun x y c e => by
  unfold fSub at e
  split at e
  · rename_i i j h; cases h; cases e; exact ⟨i, j, rfl, rfl, rfl⟩
  · cases e) fun _ _ _ _ => .int _
theorem k_xor : Rule2 G (rI0 fun i j => .int (Builtin.bitXor i j)) fXor := k_int20 (two_of rfl (fun a => by cases a <;> rfl) (fun a b _ _ => by cases a <;> cases b <;> rfl)) (fun x y c e => by
  unfold fXor at e
  split at e
  · rename_i i j h; cases h; cases e; exact ⟨i, j, rfl, rfl, rfl⟩
  · cases e) fun _ _ _ _ => .int _
theorem k_fdiv : Rule2 G (rI CDivW fun i j => .int (i / j)) fFdiv := k_int2 (two_of rfl (fun a => by cases a <;> rfl) (fun a b _ _ => by cases a <;> cases b <;> rfl)) (fun x y c e => by
  unfold fFdiv at e
  split at e
  · rename_i i j h
    cases h
    split at e
    · rename_i hd
      cases e
      simp only [divOk, Bool.and_eq_true, decide_eq_true_eq] at hd
      exact ⟨i, j, rfl, rfl, hd, rfl⟩
    · cases e
  · cases e) fun _ _ _ _ => .int _
theorem k_mod : Rule2 G (rI (fun _ j => 0 < j) fun i j => .int (i % j)) fMod := k_int2 (two_of rfl (fun a => by cases a <;> rfl) (fun a b _ _ => by cases a <;> cases b <;> rfl)) (fun x y c e => by
  unfold fMod at e
  split at e
  · rename_i i j h
    cases h
    split at e
    · rename_i hd
      cases e
      exact ⟨i, j, rfl, rfl, hd, rfl⟩
    · cases e
  · cases e) fun _ _ _ _ => .int _
theorem k_pow : Rule2 G (rI CPow fun i j => .int (i ^ j.toNat)) fPow := k_int2 (two_of rfl (fun a => by cases a <;> rfl) (fun a b _ _ => by cases a <;> cases b <;> rfl)) (fun x y c e => by
  unfold fPow at e
  split at e
  · rename_i i j h
    cases h
    split at e
    · rename_i hd
      cases e
      simp only [powOk, Bool.and_eq_true, decide_eq_true_eq] at hd
      exact ⟨i, j, rfl, rfl, ⟨hd.1.1, hd.1.2, hd.2⟩, rfl⟩
    · cases e
  · cases e) fun _ _ _ _ => .int _
theorem k_shl : Rule2 G (rI CPow fun i j => .int (i * 2 ^ j.toNat)) fShl := k_int2 (two_of rfl (fun a => by cases a <;> rfl) (fun a b _ _ => by cases a <;> cases b <;> rfl)) (fun x y c e => by
  unfold fShl at e
  split at e
  · rename_i i j h
    cases h
    split at e
    · rename_i hd
      cases e
      simp only [powOk, Bool.and_eq_true, decide_eq_true_eq] at hd
      exact ⟨i, j, rfl, rfl, ⟨hd.1.1, hd.1.2, hd.2⟩, rfl⟩
    · cases e
  · cases e) fun _ _ _ _ => .int _
theorem k_shr : Rule2 G (rI (fun _ j => 0 ≤ j) fun i j => .int (i / 2 ^ j.toNat)) fShr := k_int2 (two_of rfl (fun a => by cases a <;> rfl) (fun a b _ _ => by cases a <;> cases b <;> rfl)) (fun x y c e => by
  unfold fShr at e
  split at e
  · rename_i i j h
    cases h
    split at e
    · rename_i hd
      cases e
      exact ⟨i, j, rfl, rfl, hd, rfl⟩
    · cases e
  · cases e) fun _ _ _ _ => .int _
theorem k_neg : Rule1 G (rU fun i => .int (-i)) fNeg := rule1 (one_of rfl fun a b r => by cases a <;> rfl) fun g L H v x c Q r w e q => by
  unfold fNeg at e
  split at e
  · rename_i i h
    cases h; cases e
    exact ⟨i, w.int, push_int r q⟩
  · cases e
/-! + -/
theorem txtOk_append {a b : Str} (h : txtOk a = true) (k : txtOk b = true) : txtOk (a ++ b) = true := by
  unfold txtOk at *
  have e : (a ++ b).cps = a.cps ++ b.cps := rfl
  rw [e, Array.all_append, h, k]; rfl
def rAddQ (K : PySem.W.Frag) : R2 := fun x y H Q => (rI0 fun i j => .int (i + j)) x y H Q ∨ (∃ i j, x = .str i ∧ y = .str j ∧ i.length + j.length ≤ sizeLine ∧ Q (.str (i ++ j)) H) ∨ rCatA K x y H Q ∨ rCat x y H Q ∨ (∃ i k, x = .int i ∧ y = .bl k ∧ Q (.int (i + b2i k)) H)
theorem op_addQ : OpR X (binaryOp .Add) (rAddQ X.K) := op_add.or (op_add_str.or (op_catA.or (op_cat.or op_add_ib)))
theorem k_add (K : X.K = G.K) : Rule2 G (rAddQ X.K) fAdd := rule2 (two_of rfl (fun a => by cases a <;> rfl) (fun a b _ _ => by cases a <;> cases b <;> rfl)) fun g L H v u x y c Q r w1 w2 e q => by
  unfold fAdd at e
  split at e
  · rename_i i j h
    cases h; cases e
    exact .inl ⟨i, j, w1.int, w2.int, push_int r q⟩
  · rename_i a b h
    cases h
    split at e
    · rename_i hz
      cases e
      rw [SZ_eq] at hz
      exact .inr (.inl ⟨a, b, w1.str.1, w2.str.1, hz, q _ _ (r.push (.str _ (txtOk_append w1.str.2 w2.str.2)))⟩)
    · cases e
  · rename_i a b h
    cases h
    split at e
    · rename_i hz
      cases e
      rw [SZ_eq] at hz
      obtain ⟨p1, vs1, rfl, h1, k1⟩ := w1.tup
      obtain ⟨p2, vs2, rfl, h2, k2⟩ := w2.tup
      refine .inr (.inr (.inl ⟨p1, p2, vs1, vs2, rfl, rfl, K ▸ h1, K ▸ h2, by rw [k1.length, k2.length]; exact hz, fun z => ?_, fun n z => ?_, fun n1 n2 p hp => q _ _ (r.newTup hp (k1.append k2))⟩))
      · subst z
        cases k1
        refine q _ _ (r.push ?_)
        rcases w2 with w2 | ⟨a, _, _, c⟩
        · exact w2
        · exact c.elim
      · subst z
        cases k2
        rw [List.append_nil] at q
        refine q _ _ (r.push ?_)
        rcases w1 with w1 | ⟨a, _, _, c⟩
        · exact w1
        · exact c.elim
    · cases e
  · rename_i a b h
    cases h
    split at e
    · rename_i hz
      cases e
      rw [SZ_eq] at hz
      obtain ⟨p1, vs1, rfl, h1, k1⟩ := w1.lst
      obtain ⟨p2, vs2, rfl, h2, k2⟩ := w2.lst
      exact .inr (.inr (.inr (.inl ⟨p1, p2, vs1, vs2, rfl, rfl, h1, h2, by rw [k1.length, k2.length]; exact hz, fun p hp => q _ _ (r.newLst hp (k1.append k2))⟩)))
    · cases e
  · rename_i i b h
    cases h; cases e
    refine .inr (.inr (.inr (.inr ⟨i, b, w1.int, w2.bl, ?_⟩)))
    have e : b2i b = (if b then 1 else 0) := by cases b <;> rfl
    rw [e]
    exact push_int r q
  · cases e
/-! * -/
theorem Reps.rpt {A : Addr → Prop} {H : Hp} {vs : List V} {ds : List D} (h : Reps G A H vs ds) (n : Nat) : Reps G A H (List.replicate n vs).flatten (List.replicate n ds).flatten := by
  induction n with
  | zero => exact .nil
  | succ n ih =>
    rw [List.replicate_succ, List.replicate_succ, List.flatten_cons, List.flatten_cons]
    exact h.append ih
def rMulQ (K : PySem.W.Frag) : R2 := fun x y H Q => (rI CMulW fun i j => .int (i * j)) x y H Q ∨ rRep x y H Q ∨ rRepT K x y H Q
theorem op_mulQ : OpR X (binaryOp .Mult) (rMulQ X.K) := op_mulW.or (op_rep.or op_repT)
theorem k_mul (K : X.K = G.K) : Rule2 G (rMulQ X.K) fMul := rule2 (two_of rfl (fun a => by cases a <;> rfl) (fun a b _ _ => by cases a <;> cases b <;> rfl)) fun g L H v u x y c Q r w1 w2 e q => by
  unfold fMul at e
  split at e
  · rename_i i j h
    cases h
    split at e
    · rename_i hz
      cases e
      simp only [mulOk, decide_eq_true_eq] at hz
      exact .inl ⟨i, j, w1.int, w2.int, hz, push_int r q⟩
    · cases e
  · rename_i xs k h
    cases h
    split at e
    · rename_i hz
      cases e
      simp only [Bool.and_eq_true, decide_eq_true_eq] at hz
      obtain ⟨p1, vs1, rfl, h1, k1⟩ := w1.lst
      exact .inr (.inl ⟨p1, k, vs1, rfl, w2.int, h1, hz.1.1, hz.1.2, by rw [k1.length, ← SZ_eq]; exact hz.2, fun p hp => q _ _ (r.newLst hp (k1.rpt _))⟩)
    · cases e
  · rename_i xs k h
    cases h
    split at e
    · rename_i hz
      cases e
      simp only [Bool.and_eq_true, decide_eq_true_eq, Bool.not_eq_true'] at hz
      obtain ⟨p1, vs1, rfl, h1, k1⟩ := w1.tup
      refine .inr (.inr ⟨p1, k, vs1, rfl, w2.int, K ▸ h1, fun z => ?_, hz.1.1.2, hz.1.2, by rw [k1.length]; exact hz.2, fun p hp => q _ _ (r.newTup hp (k1.rpt _))⟩)
      subst z
      cases k1
      exact absurd hz.1.1.1 (by simp)
    · cases e
  · cases e
end

/-! ### the forms for a proof -/
section
variable {X : Cx} {G : Gam} {W : WX} {a b : Expr} {o p : Opd} {pos : Pos}
theorem se_add (K : X.K = G.K) (ha : PE X a (tO G W o)) (hb : PE X b (tO G W p)) : PE X (.BinOp a .Add b pos) (tE G W (eOp fAdd [o, p])) := se_op op_addQ (k_add K) ha hb
theorem se_sub (ha : PE X a (tO G W o)) (hb : PE X b (tO G W p)) : PE X (.BinOp a .Sub b pos) (tE G W (eOp fSub [o, p])) := se_op op_sub k_sub ha hb
theorem se_mul (K : X.K = G.K) (ha : PE X a (tO G W o)) (hb : PE X b (tO G W p)) : PE X (.BinOp a .Mult b pos) (tE G W (eOp fMul [o, p])) := se_op op_mulQ (k_mul K) ha hb
theorem se_fdiv (ha : PE X a (tO G W o)) (hb : PE X b (tO G W p)) : PE X (.BinOp a .FloorDiv b pos) (tE G W (eOp fFdiv [o, p])) := se_op op_fdivW k_fdiv ha hb
theorem se_mod (ha : PE X a (tO G W o)) (hb : PE X b (tO G W p)) : PE X (.BinOp a .Mod b pos) (tE G W (eOp fMod [o, p])) := se_op op_mod k_mod ha hb
theorem se_pow (ha : PE X a (tO G W o)) (hb : PE X b (tO G W p)) : PE X (.BinOp a .Pow b pos) (tE G W (eOp fPow [o, p])) := se_op op_pow k_pow ha hb
theorem se_shl (ha : PE X a (tO G W o)) (hb : PE X b (tO G W p)) : PE X (.BinOp a .LShift b pos) (tE G W (eOp fShl [o, p])) := se_op op_shl k_shl ha hb
theorem se_shr (ha : PE X a (tO G W o)) (hb : PE X b (tO G W p)) : PE X (.BinOp a .RShift b pos) (tE G W (eOp fShr [o, p])) := se_op op_shr k_shr ha hb
theorem se_xor (ha : PE X a (tO G W o)) (hb : PE X b (tO G W p)) : PE X (.BinOp a .BitXor b pos) (tE G W (eOp fXor [o, p])) := se_op op_xor k_xor ha hb
theorem se_neg (ha : PE X a (tO G W o)) : PE X (.UnaryOp .USub a pos) (tE G W (eOp fNeg [o])) := se_un un_neg k_neg ha
theorem se_lt (ha : PE X a (tO G W o)) (hb : PE X b (tO G W p)) : PE X (.Compare a [.Lt] [b] pos) (tE G W (eOp fLt [o, p])) := se_cmp op_lt k_lt ha hb (nomark _)
theorem se_le (ha : PE X a (tO G W o)) (hb : PE X b (tO G W p)) : PE X (.Compare a [.LtE] [b] pos) (tE G W (eOp fLe [o, p])) := se_cmp op_le k_le ha hb (nomark _)
theorem se_gt (ha : PE X a (tO G W o)) (hb : PE X b (tO G W p)) : PE X (.Compare a [.Gt] [b] pos) (tE G W (eOp fGt [o, p])) := se_cmp op_gt k_gt ha hb (nomark _)
theorem se_ge (ha : PE X a (tO G W o)) (hb : PE X b (tO G W p)) : PE X (.Compare a [.GtE] [b] pos) (tE G W (eOp fGe [o, p])) := se_cmp op_ge k_ge ha hb (nomark _)
theorem se_eq (K : X.K = G.K) (hu : X.A.units + 64 < cLine) (ha : PE X a (tO G W o)) (hb : PE X b (tO G W p)) : PE X (.Compare a [.Eq] [b] pos) (tE G W (eOp fEq [o, p])) := se_cmp (op_eqQ hu) (k_eq K) ha hb (nomark _)
theorem se_ne (K : X.K = G.K) (hu : X.A.units + 64 < cLine) (ha : PE X a (tO G W o)) (hb : PE X b (tO G W p)) : PE X (.Compare a [.NotEq] [b] pos) (tE G W (eOp fNe [o, p])) := se_cmp (op_neQ hu) (k_ne K) ha hb (nomark _)
end
end Sm

set_option Elab.async false
set_option linter.all false
set_option maxRecDepth 100000
/-! Sm, part D: tests, and, or, not, chains, places, slices, calls of built-ins. -/
namespace Sm
open PySem PySem.Spec PyProof.Rows L2

/-! ### tests -/
def TPost (G : Gam) (g : Nat → V) (σ : L2.St) (T : Tmp) (Q : Bool → Hp → Prop) (W : WX) : ER → Prop
  | .ok (.c _ _ (.bl b)) ρ' => ∀ H', Rel G g ρ' σ T H' → Q b H'
  | .ok _ _ => False
  | .exc e ρ' => ∀ H', Rel G g ρ' σ T H' → W (.ref (G.cls e)) none σ H'
  | .stk => False
/-- the reading of a test whose denotation gives a truth value -/
def tT (G : Gam) (W : WX) (d : DE) : TT := fun σ H Q => ∃ g ρ T, Rel G g ρ σ T H ∧ TPost G g σ T Q W (d ρ)
section
variable {X : Cx} {e : Expr}
theorem _root_.L2.PT.weak {t t' : TT} (h : PT X e t) (w : ∀ σ H Q, t' σ H Q → t σ H Q) : PT X e t' := ⟨fun pins s σ H Q I q => h.run pins s σ H Q I (w σ H Q q)⟩
theorem _root_.L2.PW.weak {t t' : TT} (h : PW X e t) (w : ∀ σ H Q, t' σ H Q → t σ H Q) : PW X e t' := ⟨fun wh pins s σ H Q I q => h.run wh pins s σ H Q I (w σ H Q q)⟩
end
/-- the answer of f is a truth value -/
def GivesB (f : List D → Option Cell) : Prop := ∀ ds c, f ds = some c → ∃ b, c = vl (.bl b)
/-- truth of a value -/
def fTru : List D → Option Cell
  | [.non] => some (vl (.bl false))
  | [.bl b] => some (vl (.bl b))
  | [.int i] => some (vl (.bl (i != 0)))
  | [.str s] => if s.length ≤ SZ then some (vl (.bl ((s.length : Int) != 0))) else none
  | [.lst xs] => some (vl (.bl (!xs.isEmpty)))
  | [.frl xs] => some (vl (.bl (!xs.isEmpty)))
  | [.tup xs] => some (vl (.bl (!xs.isEmpty)))
  | _ => none
theorem fTru_b : GivesB fTru := fun ds c e => by
  unfold fTru at e
  split at e <;> (try cases e) <;> (try exact ⟨_, rfl⟩)
  rename_i s
  split at e <;> cases e
  exact ⟨_, rfl⟩
section
variable {X : Cx} {G : Gam} {g : Nat → V} {W : WX} {a b : Expr} {o p q : Opd} {pos : Pos} {σ : L2.St} {H : Hp}
theorem tT_args {f : List D → Option Cell} {os : List Opd} {Q : Bool → Hp → Prop} (hb : GivesB f) (h : tT G W (eOp f os) σ H Q) : tOs G W os σ H (AskAt G f fun x H' => ∃ k, x = .bl k ∧ Q k H') := by
  obtain ⟨g, ρ, T, r, h⟩ := h
  refine eOp_args ⟨g, ρ, T, r, ?_⟩
  cases e : eOp f os ρ with
  | stk => rw [e] at h; exact h
  | exc n ρ' => rw [e] at h; exact h
  | ok c ρ' =>
    rw [e] at h
    have hc : ∃ b, c = vl (.bl b) := by
      unfold eOp at e
      split at e
      · split at e
        · rename_i h2
          cases e
          exact hb _ _ h2
        · cases e
      · cases e
      · cases e
    obtain ⟨b, rfl⟩ := hc
    intro v H' r'
    have c := r'.head.rep
    cases c
    exact ⟨b, rfl, h H' r'.pop⟩
theorem st_cmp {op : CmpOp} {r : R2} {f : List D → Option Cell} (ho : OpR X (compareOp op) r) (k : Rule2 G r f) (hb : GivesB f) (ha : PE X a (tO G W o)) (hb' : PE X b (tO G W p)) (hm : behindInMarks op b = false) :
    PT X (.Compare a [op] [b] pos) (tT G W (eOp f [o, p])) :=
  (pt_cmpR ho ha hb' hm).weak fun σ H Q h => tO.mono (fun x H1 q => tO.mono (fun y H2 q2 => k.at q2 x y rfl) q) (tT_args hb h)
theorem gb_cmp {p : Int → Int → Bool} : GivesB (fCmpI p) := fun ds c e => by
  unfold fCmpI at e
  split at e <;> cases e
  exact ⟨_, rfl⟩
theorem gb_eq : GivesB fEq := fun ds c e => by
  unfold fEq at e
  split at e
  · split at e <;> cases e
    exact ⟨_, rfl⟩
  · cases e
theorem gb_ne : GivesB fNe := fun ds c e => by
  unfold fNe at e
  split at e
  · split at e <;> cases e
    exact ⟨_, rfl⟩
  · cases e
theorem st_lt (ha : PE X a (tO G W o)) (hb : PE X b (tO G W p)) : PT X (.Compare a [.Lt] [b] pos) (tT G W (eOp fLt [o, p])) := st_cmp op_lt k_lt gb_cmp ha hb (nomark _)
theorem st_le (ha : PE X a (tO G W o)) (hb : PE X b (tO G W p)) : PT X (.Compare a [.LtE] [b] pos) (tT G W (eOp fLe [o, p])) := st_cmp op_le k_le gb_cmp ha hb (nomark _)
theorem st_gt (ha : PE X a (tO G W o)) (hb : PE X b (tO G W p)) : PT X (.Compare a [.Gt] [b] pos) (tT G W (eOp fGt [o, p])) := st_cmp op_gt k_gt gb_cmp ha hb (nomark _)
theorem st_ge (ha : PE X a (tO G W o)) (hb : PE X b (tO G W p)) : PT X (.Compare a [.GtE] [b] pos) (tT G W (eOp fGe [o, p])) := st_cmp op_ge k_ge gb_cmp ha hb (nomark _)
theorem st_eq (K : X.K = G.K) (hu : X.A.units + 64 < cLine) (ha : PE X a (tO G W o)) (hb : PE X b (tO G W p)) : PT X (.Compare a [.Eq] [b] pos) (tT G W (eOp fEq [o, p])) := st_cmp (op_eqQ hu) (k_eq K) gb_eq ha hb (nomark _)
theorem st_ne (K : X.K = G.K) (hu : X.A.units + 64 < cLine) (ha : PE X a (tO G W o)) (hb : PE X b (tO G W p)) : PT X (.Compare a [.NotEq] [b] pos) (tT G W (eOp fNe [o, p])) := st_cmp (op_neQ hu) (k_ne K) gb_ne ha hb (nomark _)
/-- truth of any value -/
theorem k_tru (K : X.K = G.K) {L : Tmp} {H : Hp} {v : V} {x : D} {c : Cell} (w : View G (· ∈ owns L) H v x) (e : fTru [x] = some c) : ∃ k, c = vl (.bl k) ∧ TruV X.K v H k := by
  cases x with
  | non => cases e; rw [w.non]; exact ⟨_, rfl, rfl⟩
  | bl b => cases e; rw [w.bl]; exact ⟨_, rfl, rfl⟩
  | int i => cases e; rw [w.int]; exact ⟨_, rfl, rfl⟩
  | str s =>
    simp only [fTru] at e
    split at e
    · rename_i hz
      cases e
      rw [w.str.1]
      rw [SZ_eq] at hz
      exact ⟨_, rfl, hz, rfl⟩
    · cases e
  | lst xs =>
    cases e
    obtain ⟨a, vs, rfl, h, r⟩ := w.lst
    refine ⟨_, rfl, .inl ⟨vs, SqL.of h, ?_⟩⟩
    cases r <;> rfl
  | frl xs =>
    cases e
    obtain ⟨a, vs, rfl, h, r⟩ := w.frl
    refine ⟨_, rfl, .inl ⟨vs, K ▸ h, ?_⟩⟩
    cases r <;> rfl
  | tup xs =>
    cases e
    obtain ⟨a, vs, rfl, h, r⟩ := w.tup
    refine ⟨_, rfl, .inr (.inl ⟨vs, K ▸ h, ?_⟩)⟩
    cases r <;> rfl
  | dct _ => cases e
  | exc _ => cases e
theorem st_tru (K : X.K = G.K) (ha : PE X a (tO G W o)) (he : ∀ whole, isTrue a X.env whole = (do let v ← whole; standAt a.pos; holding [v] (truthy v)) := by intro _; rfl) : PT X a (tT G W (eOp fTru [o])) :=
  (pt_truth ha he).weak fun σ H Q h => by
    refine tO.mono (fun x H1 q => ?_) (tT_args fTru_b h)
    obtain ⟨g, L, ds, c, rl, vw, e, q⟩ := q
    cases vw with
    | cons w n =>
      cases n
      obtain ⟨k, rfl, t⟩ := k_tru K w e
      obtain ⟨k', ek, q'⟩ := q (.bl k) H1 (rl.push (.bl k))
      cases ek
      exact ⟨k, t, q'⟩
/-- and, or, not -/
def eAnd (a b : DE) : DE := fun ρ => match a ρ with
  | .ok (.c _ _ (.bl true)) ρ1 => b ρ1
  | .ok (.c _ _ (.bl false)) ρ1 => .ok (vl (.bl false)) ρ1
  | .ok _ _ => .stk
  | .exc e ρ1 => .exc e ρ1
  | .stk => .stk
def eOr (a b : DE) : DE := fun ρ => match a ρ with
  | .ok (.c _ _ (.bl true)) ρ1 => .ok (vl (.bl true)) ρ1
  | .ok (.c _ _ (.bl false)) ρ1 => b ρ1
  | .ok _ _ => .stk
  | .exc e ρ1 => .exc e ρ1
  | .stk => .stk
def eNot (a : DE) : DE := fun ρ => match a ρ with
  | .ok (.c _ _ (.bl b)) ρ1 => .ok (vl (.bl (!b))) ρ1
  | .ok _ _ => .stk
  | .exc e ρ1 => .exc e ρ1
  | .stk => .stk
def eIf (t a b : DE) : DE := fun ρ => match t ρ with
  | .ok (.c _ _ (.bl true)) ρ1 => a ρ1
  | .ok (.c _ _ (.bl false)) ρ1 => b ρ1
  | .ok _ _ => .stk
  | .exc e ρ1 => .exc e ρ1
  | .stk => .stk
variable {da db dc : DE} {rest : List Expr}
theorem sw_one_and (h : PT X a (tT G W da)) : PW X (.BoolOp .And [a] pos) (tT G W da) := pw_and1 h
theorem sw_one_or (h : PT X a (tT G W da)) : PW X (.BoolOp .Or [a] pos) (tT G W da) := pw_or1 h
theorem sw_and (ha : PT X a (tT G W da)) (hb : PW X (.BoolOp .And (b :: rest) pos) (tT G W db)) : PW X (.BoolOp .And (a :: b :: rest) pos) (tT G W (eAnd da db)) :=
  (pw_and ha hb).weak fun σ H Q h => by
    obtain ⟨g, ρ, T, r, h⟩ := h
    unfold eAnd at h
    refine ⟨g, ρ, T, r, ?_⟩
    cases e : da ρ with
    | stk => rw [e] at h; exact h
    | exc n ρ' => rw [e] at h; exact h
    | ok c ρ' =>
      rw [e] at h
      cases c with
      | emp => exact h
      | c o b' d =>
        cases d with
        | bl b =>
          intro H' r'
          cases b with
          | true => exact ⟨g, ρ', T, r', h⟩
          | false => exact h H' r'
        | _ => exact h
theorem sw_or (ha : PT X a (tT G W da)) (hb : PW X (.BoolOp .Or (b :: rest) pos) (tT G W db)) : PW X (.BoolOp .Or (a :: b :: rest) pos) (tT G W (eOr da db)) :=
  (pw_or ha hb).weak fun σ H Q h => by
    obtain ⟨g, ρ, T, r, h⟩ := h
    unfold eOr at h
    refine ⟨g, ρ, T, r, ?_⟩
    cases e : da ρ with
    | stk => rw [e] at h; exact h
    | exc n ρ' => rw [e] at h; exact h
    | ok c ρ' =>
      rw [e] at h
      cases c with
      | emp => exact h
      | c o b' d =>
        cases d with
        | bl b =>
          intro H' r'
          cases b with
          | true => exact h H' r'
          | false => exact ⟨g, ρ', T, r', h⟩
        | _ => exact h
theorem st_of {e : Expr} (h : PW X e (tT G W da)) : PT X e (tT G W da) := h.pt
theorem st_not (ha : PT X a (tT G W da)) : PT X (.UnaryOp .Not a pos) (tT G W (eNot da)) :=
  (pt_not ha).weak fun σ H Q h => by
    obtain ⟨g, ρ, T, r, h⟩ := h
    unfold eNot at h
    refine ⟨g, ρ, T, r, ?_⟩
    cases e : da ρ with
    | stk => rw [e] at h; exact h
    | exc n ρ' => rw [e] at h; exact h
    | ok c ρ' =>
      rw [e] at h
      cases c with
      | emp => exact h
      | c o b' d =>
        cases d with
        | bl b => exact h
        | _ => exact h
/-- as values -/
theorem se_one {op : BoolOp} (h : PE X a (tE G W da)) : PE X (.BoolOp op [a] pos) (tE G W da) := pe_one h
theorem se_and (ha : PE X a (tE G W da)) (hb : PE X (.BoolOp .And (b :: rest) pos) (tE G W db)) : PE X (.BoolOp .And (a :: b :: rest) pos) (tE G W (eAnd da db)) :=
  (pe_and ha hb).weak fun σ H Q h => by
    obtain ⟨g, ρ, T, r, h⟩ := h
    unfold eAnd at h
    refine ⟨g, ρ, T, r, ?_⟩
    cases e : da ρ with
    | stk => rw [e] at h; exact h
    | exc n ρ' => rw [e] at h; exact h
    | ok c ρ' =>
      rw [e] at h
      cases c with
      | emp => exact h.elim
      | c o b' d =>
        cases d with
        | bl b =>
          intro v H' r'
          have c := r'.frz.head.rep
          cases c
          refine ⟨b, rfl, ?_⟩
          cases b with
          | true => exact ⟨g, ρ', T, r'.pop, h⟩
          | false => exact h _ H' (r'.frz)
        | _ => exact h.elim
theorem se_or (ha : PE X a (tE G W da)) (hb : PE X (.BoolOp .Or (b :: rest) pos) (tE G W db)) : PE X (.BoolOp .Or (a :: b :: rest) pos) (tE G W (eOr da db)) :=
  (pe_or ha hb).weak fun σ H Q h => by
    obtain ⟨g, ρ, T, r, h⟩ := h
    unfold eOr at h
    refine ⟨g, ρ, T, r, ?_⟩
    cases e : da ρ with
    | stk => rw [e] at h; exact h
    | exc n ρ' => rw [e] at h; exact h
    | ok c ρ' =>
      rw [e] at h
      cases c with
      | emp => exact h.elim
      | c o b' d =>
        cases d with
        | bl b =>
          intro v H' r'
          have c := r'.frz.head.rep
          cases c
          refine ⟨b, rfl, ?_⟩
          cases b with
          | true => exact h _ H' (r'.frz)
          | false => exact ⟨g, ρ', T, r'.pop, h⟩
        | _ => exact h.elim
/-- not of any value, as a value: by its truth -/
theorem se_not (K : X.K = G.K) (ha : PE X a (tE G W da)) : PE X (.UnaryOp .Not a pos) (tE G W (eNot (eOp fTru [.ex da]))) :=
  (pe_notT ha).weak fun σ H Q h => by
    obtain ⟨g, ρ, T, r, h⟩ := h
    refine ⟨g, ρ, T, r, ?_⟩
    unfold eNot eOp evD evO at h
    cases e : da ρ with
    | stk => rw [e] at h; exact h
    | exc n ρ' => rw [e] at h; exact h
    | ok c ρ' =>
      rw [e] at h
      simp only [evO] at h
      cases c with
      | emp => simp only [lookO] at h; exact h.elim
      | c o b' d =>
        simp only [lookO] at h
        intro v H' r'
        have w := r'.2.view (List.mem_append_right _ List.mem_cons_self)
        cases e2 : fTru [d] with
        | none => rw [e2] at h; exact h.elim
        | some c2 =>
          obtain ⟨k, rfl, t⟩ := k_tru K w e2
          rw [e2] at h
          exact ⟨k, t, h _ H' (r'.pop.push (.bl _))⟩
theorem se_if {c : Expr} (hc : PT X c (tT G W dc)) (ha : PE X a (tE G W da)) (hb : PE X b (tE G W db)) : PE X (.IfExp c a b pos) (tE G W (eIf dc da db)) :=
  (pe_ifExp hc ha hb).weak fun σ H Q h => by
    obtain ⟨g, ρ, T, r, h⟩ := h
    unfold eIf at h
    refine ⟨g, ρ, T, r, ?_⟩
    cases e : dc ρ with
    | stk => rw [e] at h; exact h
    | exc n ρ' => rw [e] at h; exact h
    | ok c ρ' =>
      rw [e] at h
      cases c with
      | emp => exact h
      | c o b' d =>
        cases d with
        | bl b =>
          intro H' r'
          cases b with
          | true => exact ⟨g, ρ', T, r', h⟩
          | false => exact ⟨g, ρ', T, r', h⟩
        | _ => exact h
/-- a chain of two comparisons of ints -/
def eChain (p q : Int → Int → Bool) (a b c : DE) : DE := fun ρ => match a ρ with
  | .ok (.c _ _ (.int i)) ρ1 => match b ρ1 with
    | .ok (.c _ _ (.int j)) ρ2 => if p i j then match c ρ2 with
        | .ok (.c _ _ (.int k)) ρ3 => .ok (vl (.bl (q j k))) ρ3
        | .ok _ _ => .stk
        | .exc e ρ3 => .exc e ρ3
        | .stk => .stk
      else .ok (vl (.bl false)) ρ2
    | .ok _ _ => .stk
    | .exc e ρ2 => .exc e ρ2
    | .stk => .stk
  | .ok _ _ => .stk
  | .exc e ρ1 => .exc e ρ1
  | .stk => .stk
theorem int_of {v : V} {o : Bool} {b : Option Nat} {i : Int} {T : Tmp} {ρ : Env} (r : Rel G g ρ σ ((.c o b (.int i), some v) :: T) H) : v = .int i := by
  have c := r.frz.head.rep
  cases c
  rfl
theorem chain_run {p q : Int → Int → Bool} {T : Tmp} {ρ : Env} {Q : VK} (r : Rel G g ρ σ T H) (h : EPost G g σ T Q W (eChain p q da db dc ρ)) :
    tChain (rI0 fun i j => .bl (p i j)) (rI0 fun i j => .bl (q i j)) (tE G W da) (tE G W db) (tE G W dc) σ H Q := by
  unfold eChain at h
  refine ⟨g, ρ, T, r, ?_⟩
  cases e : da ρ with
  | stk => rw [e] at h; exact h
  | exc n ρ' => rw [e] at h; exact h
  | ok c ρ1 =>
    rw [e] at h
    intro v H1 r1
    cases c with
    | emp => exact h.elim
    | c o b' d =>
      cases d with
      | int i =>
        have := int_of r1; subst this
        refine ⟨g, ρ1, T, r1.pop, ?_⟩
        simp only at h
        cases e2 : db ρ1 with
        | stk => rw [e2] at h; exact h
        | exc n ρ' => rw [e2] at h; exact h
        | ok c ρ2 =>
          rw [e2] at h
          intro v2 H2 r2
          cases c with
          | emp => exact h.elim
          | c o b' d =>
            cases d with
            | int j =>
              have := int_of r2; subst this
              simp only at h
              refine ⟨i, j, rfl, rfl, p i j, rfl, ?_⟩
              cases e3 : p i j with
              | false => rw [e3] at h; exact h _ H2 (r2.pop.push (.bl false))
              | true =>
                rw [e3] at h
                refine ⟨g, ρ2, T, r2.pop, ?_⟩
                simp only [if_true] at h
                cases e4 : dc ρ2 with
                | stk => rw [e4] at h; exact h
                | exc n ρ' => rw [e4] at h; exact h
                | ok c ρ3 =>
                  rw [e4] at h
                  intro v3 H3 r3
                  cases c with
                  | emp => exact h.elim
                  | c o b' d =>
                    cases d with
                    | int k =>
                      have := int_of r3; subst this
                      exact ⟨j, k, rfl, rfl, h _ H3 (r3.pop.push (.bl _))⟩
                    | _ => exact h.elim
            | _ => exact h.elim
      | _ => exact h.elim
variable {c : Expr}
theorem se_chain {op op' : CmpOp} {p q : Int → Int → Bool} (ho : OpR X (compareOp op) (rI0 fun i j => .bl (p i j))) (ho' : OpR X (compareOp op') (rI0 fun i j => .bl (q i j))) (ha : PE X a (tE G W da)) (hb : PE X b (tE G W db)) (hc : PE X c (tE G W dc))
    (hm : lastMarks [op, op'] [b, c] = false := by with_unfolding_all rfl) : PE X (.Compare a [op, op'] [b, c] pos) (tE G W (eChain p q da db dc)) :=
  (pe_chain ho ho' ha hb hc hm).weak fun σ H Q h => by
    obtain ⟨g, ρ, T, r, h⟩ := h
    exact chain_run r h
theorem eChain_b {p q : Int → Int → Bool} {ρ ρ' : Env} {c : Cell} (e : eChain p q da db dc ρ = .ok c ρ') : ∃ b, c = vl (.bl b) := by
  unfold eChain at e
  split at e <;> (try cases e)
  split at e <;> (try cases e)
  split at e
  · split at e <;> cases e
    exact ⟨_, rfl⟩
  · cases e; exact ⟨_, rfl⟩
theorem st_chain {op op' : CmpOp} {p q : Int → Int → Bool} (ho : OpR X (compareOp op) (rI0 fun i j => .bl (p i j))) (ho' : OpR X (compareOp op') (rI0 fun i j => .bl (q i j))) (ha : PE X a (tE G W da)) (hb : PE X b (tE G W db)) (hc : PE X c (tE G W dc))
    (hm : lastMarks [op, op'] [b, c] = false := by with_unfolding_all rfl) :
    PT X (.Compare a [op, op'] [b, c] pos) (tT G W (eChain p q da db dc)) :=
  (pt_chain ho ho' ha hb hc hm).weak fun σ H Q h => by
    obtain ⟨g, ρ, T, r, h⟩ := h
    refine chain_run r ?_
    cases e : eChain p q da db dc ρ with
    | stk => rw [e] at h; exact h
    | exc n ρ' => rw [e] at h; exact h
    | ok c ρ' =>
      rw [e] at h
      obtain ⟨b, rfl⟩ := eChain_b e
      intro v H' r'
      have c := r'.head.rep
      cases c
      exact ⟨b, rfl, h H' r'.pop⟩
abbrev lLt := fun i j : Int => decide (i < j)
abbrev lLe := fun i j : Int => decide (i ≤ j)
end
end Sm

set_option Elab.async false
set_option linter.all false
set_option maxRecDepth 100000
/-! Sm, part E: places, slices, built-ins. -/
namespace Sm
open PySem PySem.Spec PyProof.Rows L2

/-! ### x[i] -/
theorem txtOk_iff {x : Str} : txtOk x = true ↔ ∀ c ∈ x.cps.toList, c < 0x110000 := by
  unfold txtOk
  rw [← Array.all_toList, List.all_eq_true]
  simp only [decide_eq_true_eq]
theorem txtOk_one {x : Str} (h : txtOk x = true) {c i : Nat} (e : x.cps.toList[i]? = some c) : txtOk ⟨#[c]⟩ = true := by
  rw [txtOk_iff] at *
  intro b hb
  have e2 : b = c := by simpa using hb
  rw [e2]
  exact h c (List.mem_of_getElem? e)
def fIx : List D → Option Cell
  | [.lst xs, .int i] => match atI xs i with
    | some d => some (vl d)
    | none => none
  | [.frl xs, .int i] => match atI xs i with
    | some d => some (vl d)
    | none => none
  | [.tup xs, .int i] => match atI xs i with
    | some d => some (vl d)
    | none => none
  | [.str s, .int i] => if s.length ≤ SZ then match atI s.cps.toList i with
    | some c => some (vl (.str ⟨#[c]⟩))
    | none => none else none
  | _ => none
section
variable {X : Cx} {G : Gam} {g : Nat → V} {W : WX} {a b : Expr} {o p q : Opd} {pos : Pos} {σ : L2.St} {H : Hp}
theorem Reps.atI {A : Addr → Prop} {vs : List V} {ds : List D} {i : Int} {d : D} (h : Reps G A H vs ds) (e : atI ds i = some d) : ∃ v, atI vs i = some v ∧ Rep G A H v d := by
  unfold L2.atI at *
  rw [h.length]
  cases q : ixN ds.length i with
  | none => rw [q] at e; cases e
  | some j =>
    rw [q] at e
    obtain ⟨v, e1, r⟩ := h.get (i := j) e
    exact ⟨v, e1, r⟩
theorem k_ix (K : X.K = G.K) : Rule2 G (rIx X.K) fIx := rule2 (two_of rfl (fun a => by cases a <;> rfl) (fun a b _ _ => by cases a <;> cases b <;> rfl)) fun g L H v u x y c Q r w1 w2 e q => by
  unfold fIx at e
  split at e
  · rename_i xs i h
    cases h
    cases e1 : atI xs i with
    | none => rw [e1] at e; cases e
    | some d =>
      rw [e1] at e
      cases e
      obtain ⟨a, vs, rfl, h1, k1⟩ := w1.lst
      obtain ⟨v, e2, rr⟩ := k1.atI e1
      exact .inl ⟨a, vs, i, v, rfl, w2.int, SqL.of h1, e2, q _ _ (r.push rr)⟩
  · rename_i xs i h
    cases h
    cases e1 : atI xs i with
    | none => rw [e1] at e; cases e
    | some d =>
      rw [e1] at e
      cases e
      obtain ⟨a, vs, rfl, h1, k1⟩ := w1.frl
      obtain ⟨v, e2, rr⟩ := k1.atI e1
      exact .inl ⟨a, vs, i, v, rfl, w2.int, K ▸ h1, e2, q _ _ (r.push rr)⟩
  · rename_i xs i h
    cases h
    cases e1 : atI xs i with
    | none => rw [e1] at e; cases e
    | some d =>
      rw [e1] at e
      cases e
      obtain ⟨a, vs, rfl, h1, k1⟩ := w1.tup
      obtain ⟨v, e2, rr⟩ := k1.atI e1
      exact .inr (.inl ⟨a, vs, i, v, rfl, w2.int, K ▸ h1, e2, q _ _ (r.push rr)⟩)
  · rename_i s i h
    cases h
    split at e
    · rename_i hz
      cases e1 : atI s.cps.toList i with
      | none => rw [e1] at e; cases e
      | some d =>
        rw [e1] at e
        cases e
        rw [SZ_eq] at hz
        refine .inr (.inr ⟨s, i, d, w1.str.1, w2.int, hz, e1, q _ _ (r.push (.str _ ?_))⟩)
        unfold L2.atI at e1
        cases e3 : ixN s.cps.toList.length i with
        | none => rw [e3] at e1; cases e1
        | some j =>
          rw [e3] at e1
          exact txtOk_one w1.str.2 e1
    · cases e
  · cases e
theorem se_at (K : X.K = G.K) (ha : PE X a (tO G W o)) (hb : PE X b (tO G W p)) (hs : PlainIx b := by first | exact fun _ _ => rfl | (intro _ _; rfl)) : PE X (.Subscript a b pos) (tE G W (eOp fIx [o, p])) := se_ix ix_seq (k_ix K) ha hb hs

/-! ### x[lo:hi] -/
def cutD (xs : List D) (lo hi : Option Int) : List D := (xs.drop (HT.sIx xs.length 0 lo)).take (HT.sIx xs.length xs.length hi - HT.sIx xs.length 0 lo)
def cutC : D → Option Int → Option Int → Option Cell
  | .lst xs, lo, hi => some (ow (.lst (cutD xs lo hi)))
  | .frl xs, lo, hi => some (ow (.lst (cutD xs lo hi)))
  | .tup xs, lo, hi => some (vl (.tup (cutD xs lo hi)))
  | .str s, lo, hi => if s.length ≤ SZ then some (vl (.str (cutS s lo hi))) else none
  | _, _, _ => none
def fSl0 : List D → Option Cell
  | [x] => cutC x none none
  | _ => none
def fSl1 : List D → Option Cell
  | [x, .int i] => cutC x (some i) none
  | _ => none
def fSl2 : List D → Option Cell
  | [x, .int j] => cutC x none (some j)
  | _ => none
def fSl3 : List D → Option Cell
  | [x, .int i, .int j] => cutC x (some i) (some j)
  | _ => none
def rSlQ (K : PySem.W.Frag) : V → Option Int → Option Int → Hp → VK → Prop := fun x lo hi H Q => rSlL K x lo hi H Q ∨ rSlA K x lo hi H Q ∨ rSlS x lo hi H Q
theorem sl_Q : SlR X (rSlQ X.K) := sl_list.or (sl_tupA.or sl_str)
theorem Reps.cut {A : Addr → Prop} {vs : List V} {ds : List D} (h : Reps G A H vs ds) (lo hi : Option Int) : Reps G A H (cutV vs lo hi) (cutD ds lo hi) := by
  unfold cutV cutD
  rw [h.length]
  exact (h.drop _).take _
theorem txtOk_cut {x : Str} (h : txtOk x = true) (lo hi : Option Int) : txtOk (cutS x lo hi) = true := by
  rw [txtOk_iff] at *
  intro c hc
  unfold cutS at hc
  exact h c (List.mem_of_mem_drop (List.mem_of_mem_take hc))
theorem cut_ok (K : X.K = G.K) {L : Tmp} {H : Hp} {v : V} {x : D} {c : Cell} {Q : VK} {lo hi : Option Int} (r : RelL G g L H) (w : View G (· ∈ owns L) H v x) (e : cutC x lo hi = some c) (q : ∀ v H', RelL G g ((c, some v) :: L) H' → Q v H') : rSlQ X.K v lo hi H Q := by
  unfold cutC at e
  split at e
  · rename_i xs
    cases e
    obtain ⟨a, vs, rfl, h1, k1⟩ := w.lst
    exact .inl ⟨a, vs, rfl, SqL.of h1, fun p hp => q _ _ (r.newLst hp (k1.cut _ _))⟩
  · rename_i xs
    cases e
    obtain ⟨a, vs, rfl, h1, k1⟩ := w.frl
    exact .inl ⟨a, vs, rfl, K ▸ h1, fun p hp => q _ _ (r.newLst hp (k1.cut _ _))⟩
  · rename_i xs
    cases e
    obtain ⟨a, vs, rfl, h1, k1⟩ := w.tup
    refine .inr (.inl ⟨a, vs, rfl, K ▸ h1, fun z => ?_, fun _ p hp => q _ _ (r.newTup hp (k1.cut _ _))⟩)
    have e2 : cutD xs lo hi = xs := by
      unfold cutD
      rw [← k1.length, z.1, z.2, List.drop_zero, Nat.sub_zero, k1.length, List.take_length]
    rw [e2] at q
    refine q _ _ (r.push ?_)
    rcases w with w | ⟨a, _, _, c⟩
    · exact w
    · exact c.elim
  · rename_i s
    split at e
    · rename_i hz
      cases e
      rw [SZ_eq] at hz
      exact .inr (.inr ⟨s, w.str.1, hz, q _ _ (r.push (.str _ (txtOk_cut w.str.2 _ _)))⟩)
    · cases e
  · cases e
variable {e : Expr} {lo hi : Expr} {p2 : Pos}
theorem se_sl0 (K : X.K = G.K) (ha : PE X e (tO G W o)) : PE X (.Subscript e (.Slice none none none p2) pos) (tE G W (eOp fSl0 [o])) :=
  (pe_slice sl_Q ha po_none po_none).weak fun σ H Q h => tO.mono (fun x H1 q => by
    obtain ⟨g, L, ds, c, rl, vw, e, q⟩ := q
    cases vw with
    | cons w n => cases n; exact cut_ok K rl w e q) (eOp_args h)
theorem se_sl1 (K : X.K = G.K) (ha : PE X e (tO G W o)) (hl : PE X lo (tO G W p)) : PE X (.Subscript e (.Slice (some lo) none none p2) pos) (tE G W (eOp fSl1 [o, p])) :=
  (pe_slice sl_Q ha (po_some hl) po_none).weak fun σ H Q h => tO.mono (fun x H1 q => tO.mono (fun y H2 q => by
    obtain ⟨g, L, ds, c, rl, vw, e, q⟩ := q
    cases vw with
    | cons w n => cases n with
      | cons w2 n =>
        cases n
        unfold fSl1 at e
        split at e
        · rename_i h; cases h; exact ⟨_, w2.int, cut_ok K rl w e q⟩
        · cases e) q) (eOp_args h)
theorem se_sl2 (K : X.K = G.K) (ha : PE X e (tO G W o)) (hl : PE X hi (tO G W p)) : PE X (.Subscript e (.Slice none (some hi) none p2) pos) (tE G W (eOp fSl2 [o, p])) :=
  (pe_slice sl_Q ha po_none (po_some hl)).weak fun σ H Q h => tO.mono (fun x H1 q => tO.mono (fun y H2 q => by
    obtain ⟨g, L, ds, c, rl, vw, e, q⟩ := q
    cases vw with
    | cons w n => cases n with
      | cons w2 n =>
        cases n
        unfold fSl2 at e
        split at e
        · rename_i h; cases h; exact ⟨_, w2.int, cut_ok K rl w e q⟩
        · cases e) q) (eOp_args h)
/-- an int -/
def eInt (d : DE) : DE := fun ρ => match d ρ with
  | .ok (.c _ _ (.int i)) ρ' => .ok (vl (.int i)) ρ'
  | .ok _ _ => .stk
  | .exc e ρ' => .exc e ρ'
  | .stk => .stk
theorem tE_int {d : DE} {Q : VK} (h : tE G W (eInt d) σ H Q) : tE G W d σ H fun y H2 => ∃ i, y = .int i ∧ Q y H2 := by
  obtain ⟨g, ρ, T, r, h⟩ := h
  refine ⟨g, ρ, T, r, ?_⟩
  unfold eInt at h
  cases e : d ρ with
  | stk => rw [e] at h; exact h
  | exc n ρ' => rw [e] at h; exact h
  | ok c ρ' =>
    rw [e] at h
    cases c with
    | emp => exact h.elim
    | c o b d =>
      cases d with
      | int i =>
        intro v H' r'
        have := int_of r'
        subst this
        exact ⟨i, rfl, h _ H' r'.frz⟩
      | _ => exact h.elim
theorem se_sl3 {dl : DE} (K : X.K = G.K) (ha : PE X e (tO G W o)) (hl : PE X lo (tE G W dl)) (hh : PE X hi (tO G W q)) : PE X (.Subscript e (.Slice (some lo) (some hi) none p2) pos) (tE G W (eOp fSl3 [o, .ex (eInt dl), q])) :=
  (pe_slice sl_Q ha (po_some hl) (po_some hh)).weak fun σ H Q h => tO.mono (fun x H1 q => tE.mono (fun y H2 ⟨i, ei, q⟩ => by
    subst ei
    refine ⟨i, rfl, tO.mono (fun z H3 q => ?_) q⟩
    obtain ⟨g, L, ds, c, rl, vw, e, q⟩ := q
    cases vw with
    | cons w n => cases n with
      | cons w2 n => cases n with
        | cons w3 n =>
          cases n
          unfold fSl3 at e
          split at e
          · rename_i h
            cases h
            have e3 := w2.int
            cases e3
            exact ⟨_, w3.int, cut_ok K rl w e q⟩
          · cases e) (tE_int q)) (eOp_args h)
/-! ### len, abs, int, max, min -/
def fLen : List D → Option Cell
  | [.str s] => if s.length ≤ SZ then some (vl (.int s.length)) else none
  | [.lst xs] => some (vl (.int xs.length))
  | [.frl xs] => some (vl (.int xs.length))
  | [.tup xs] => some (vl (.int xs.length))
  | _ => none
theorem k_len (K : X.K = G.K) : RuleFor G (fun xs H Q => ∃ x n, xs = [x] ∧ LenV X.K x H n ∧ Q (.int n) H) fLen := fun g L H vs ds c Q rl vw e q => by
  unfold fLen at e
  split at e
  · obtain ⟨v, rfl, w⟩ := vw.one
    split at e
    · rename_i hz
      cases e
      rw [w.str.1]
      rw [SZ_eq] at hz
      exact ⟨_, _, rfl, ⟨hz, rfl⟩, push_int rl q⟩
    · cases e
  · obtain ⟨v, rfl, w⟩ := vw.one
    cases e
    obtain ⟨a, ws, rfl, h1, k1⟩ := w.lst
    refine ⟨_, ws.length, rfl, .inl ⟨ws, SqL.of h1, rfl⟩, ?_⟩
    rw [k1.length]
    exact push_int rl q
  · obtain ⟨v, rfl, w⟩ := vw.one
    cases e
    obtain ⟨a, ws, rfl, h1, k1⟩ := w.frl
    refine ⟨_, ws.length, rfl, .inl ⟨ws, K ▸ h1, rfl⟩, ?_⟩
    rw [k1.length]
    exact push_int rl q
  · obtain ⟨v, rfl, w⟩ := vw.one
    cases e
    obtain ⟨a, ws, rfl, h1, k1⟩ := w.tup
    refine ⟨_, ws.length, rfl, .inr ⟨ws, K ▸ h1, rfl⟩, ?_⟩
    rw [k1.length]
    exact push_int rl q
  · cases e
def fAbs : List D → Option Cell
  | [.int i] => some (vl (.int (if i < 0 then -i else i)))
  | _ => none
theorem k_abs : RuleFor G (fun xs H Q => ∃ i, xs = [.int i] ∧ Q (.int (if i < 0 then -i else i)) H) fAbs := fun g L H vs ds c Q rl vw e q => by
  unfold fAbs at e
  split at e
  · obtain ⟨v, rfl, w⟩ := vw.one
    cases e
    rw [w.int]
    exact ⟨_, rfl, push_int rl q⟩
  · cases e
def fInt : List D → Option Cell
  | [.int i] => some (vl (.int i))
  | [.bl b] => some (vl (.int (if b then 1 else 0)))
  | _ => none
theorem k_int : RuleFor G (fun xs H Q => (∃ i, xs = [.int i] ∧ Q (.int i) H) ∨ ∃ k, xs = [.bl k] ∧ Q (.int (if k then 1 else 0)) H) fInt := fun g L H vs ds c Q rl vw e q => by
  unfold fInt at e
  split at e
  · obtain ⟨v, rfl, w⟩ := vw.one
    cases e
    rw [w.int]
    exact .inl ⟨_, rfl, push_int rl q⟩
  · obtain ⟨v, rfl, w⟩ := vw.one
    cases e
    rw [w.bl]
    exact .inr ⟨_, rfl, push_int rl q⟩
  · cases e
def fMax2 : List D → Option Cell
  | [.int i, .int j] => some (vl (.int (if j > i then j else i)))
  | _ => none
def fMin2 : List D → Option Cell
  | [.int i, .int j] => some (vl (.int (if j < i then j else i)))
  | _ => none
theorem k_max2 : RuleFor G (fun xs H Q => ∃ i j, xs = [.int i, .int j] ∧ Q (.int (if j > i then j else i)) H) fMax2 := fun g L H vs ds c Q rl vw e q => by
  unfold fMax2 at e
  split at e
  · obtain ⟨v, u, rfl, w, w2⟩ := vw.two
    cases e
    rw [w.int, w2.int]
    exact ⟨_, _, rfl, push_int rl q⟩
  · cases e
theorem k_min2 : RuleFor G (fun xs H Q => ∃ i j, xs = [.int i, .int j] ∧ Q (.int (if j < i then j else i)) H) fMin2 := fun g L H vs ds c Q rl vw e q => by
  unfold fMin2 at e
  split at e
  · obtain ⟨v, u, rfl, w, w2⟩ := vw.two
    cases e
    rw [w.int, w2.int]
    exact ⟨_, _, rfl, push_int rl q⟩
  · cases e
/-! ### list(x), tuple(x) of a list or a tuple -/
def fList : List D → Option Cell
  | [.lst xs] => some (ow (.lst xs))
  | [.frl xs] => some (ow (.lst xs))
  | [.tup xs] => some (ow (.lst xs))
  | _ => none
theorem k_list (K : X.K = G.K) : RuleFor G (fun xs H Q => ∃ p ys, xs = [.ref p] ∧ (SqL X.K H p ys ∨ SqT X.K H p ys) ∧ ∀ l, H l = none → Q (.ref l) (upd H l (.lst ys))) fList := fun g L H vs ds c Q rl vw e q => by
  unfold fList at e
  split at e
  · obtain ⟨v, rfl, w⟩ := vw.one
    cases e
    obtain ⟨a, ws, rfl, h1, k1⟩ := w.lst
    exact ⟨a, ws, rfl, .inl (SqL.of h1), fun l hl => q _ _ (rl.newLst hl k1)⟩
  · obtain ⟨v, rfl, w⟩ := vw.one
    cases e
    obtain ⟨a, ws, rfl, h1, k1⟩ := w.frl
    exact ⟨a, ws, rfl, .inl (K ▸ h1), fun l hl => q _ _ (rl.newLst hl k1)⟩
  · obtain ⟨v, rfl, w⟩ := vw.one
    cases e
    obtain ⟨a, ws, rfl, h1, k1⟩ := w.tup
    exact ⟨a, ws, rfl, .inr (K ▸ h1), fun l hl => q _ _ (rl.newLst hl k1)⟩
  · cases e
def fTuple : List D → Option Cell
  | [.lst xs] => some (vl (.tup xs))
  | [.frl xs] => some (vl (.tup xs))
  | [.tup xs] => some (vl (.tup xs))
  | _ => none
theorem k_tuple (K : X.K = G.K) : RuleFor G (fun xs H Q => ∃ p ys, xs = [.ref p] ∧ ((SqL X.K H p ys ∧ ∀ l, H l = none → Q (.ref l) (upd H l (.tup ys))) ∨ (SqT X.K H p ys ∧ Q (.ref p) H))) fTuple := fun g L H vs ds c Q rl vw e q => by
  unfold fTuple at e
  split at e
  · obtain ⟨v, rfl, w⟩ := vw.one
    cases e
    obtain ⟨a, ws, rfl, h1, k1⟩ := w.lst
    exact ⟨a, ws, rfl, .inl ⟨SqL.of h1, fun l hl => q _ _ (rl.newTup hl k1)⟩⟩
  · obtain ⟨v, rfl, w⟩ := vw.one
    cases e
    obtain ⟨a, ws, rfl, h1, k1⟩ := w.frl
    exact ⟨a, ws, rfl, .inl ⟨K ▸ h1, fun l hl => q _ _ (rl.newTup hl k1)⟩⟩
  · obtain ⟨v, rfl, w⟩ := vw.one
    cases e
    obtain ⟨a, ws, rfl, h1, k1⟩ := w.tup
    refine ⟨a, ws, rfl, .inr ⟨K ▸ h1, q _ _ (rl.push ?_)⟩⟩
    rcases w with w | ⟨a, _, _, c⟩
    · exact w
    · exact c.elim
  · cases e
/-! ### gcd, isqrt -/
def fGcd : List D → Option Cell
  | [.int i, .int j] => some (vl (.int ((Nat.gcd i.natAbs j.natAbs : Nat) : Int)))
  | _ => none
theorem k_gcd : RuleFor G rGcd fGcd := fun g L H vs ds c Q rl vw e q => by
  unfold fGcd at e
  split at e
  · obtain ⟨v, u, rfl, w, w2⟩ := vw.two
    cases e
    rw [w.int, w2.int]
    exact ⟨_, _, rfl, push_int rl q⟩
  · cases e
def fIsqrt : List D → Option Cell
  | [.int i] => if 0 ≤ i ∧ i.toNat.log2 ≤ 13000 then some (vl (.int (Float64.isqrt i.toNat : Nat))) else none
  | _ => none
def rIsqrt : List V → Hp → VK → Prop := fun vs H Q => ∃ a : Int, vs = [.int a] ∧ 0 ≤ a ∧ a.toNat.log2 ≤ 13000 ∧ Q (.int ((Float64.isqrt a.toNat : Nat) : Int)) H
theorem cr_isqrt : CallR X (.builtin "math.isqrt") rIsqrt := by
  intro pins s σ H vs us Q I r h
  obtain ⟨a, rfl, h0, h1, q⟩ := h
  obtain ⟨u, rfl, ru⟩ := vals1 r
  obtain ⟨t, rfl⟩ := ru
  exact PySem.call_function_meets PySem.W.MGF.kind_isqrt PySem.W.MGF.plain_isqrt PySem.W.MGF.entry_isqrt (PySem.W.MGF.args_isqrt _) (PySem.W.mg_run_isqrt a t (by omega) (by omega) (by omega)).meets ⟨.int _, H, I.tok _, ⟨_, rfl⟩, q⟩
theorem k_isqrt : RuleFor G rIsqrt fIsqrt := fun g L H vs ds c Q rl vw e q => by
  unfold fIsqrt at e
  split at e
  · obtain ⟨v, rfl, w⟩ := vw.one
    split at e
    · rename_i hz
      cases e
      rw [w.int]
      exact ⟨_, rfl, hz.1, hz.2, push_int rl q⟩
    · cases e
  · cases e
theorem se_callG {x : Str} {id : String} {e : Expr} {es : List Expr} {ep : Pos} {os : List Opd} {r : List V → Hp → VK → Prop} {f : List D → Option Cell} (hc : CallR X (.builtin id) r) (k : RuleFor G r f)
    (hg : Gl X x) (hm : X.mg x = some (.builtin id)) (ha : PA X (e :: es) (tOs G W os)) (hdb : (x == ("__debug__" : Str)) = false := by decide)
    (he : starEach (e :: es) X.env = (false, eval e X.env) :: starEach es X.env := by rfl) (hpl : (backTo pos (starEach es X.env)).any (·.1) = false := by rfl) :
    PE X (.Call (.Name x ep) (e :: es) [] pos) (tE G W (eOp f os)) :=
  (pe_callBfun hc hg hm ha hdb he hpl).weak fun σ H Q h => tOs_mono (fun vs H1 q => k.at q) (eOp_args h)
/-! ### isinstance -/
def isT (T : String) : D → Option Bool
  | .non => kitB "NoneType" T
  | .bl _ => kitB "bool" T
  | .int _ => kitB "int" T
  | .str _ => kitB "str" T
  | .lst _ => kitB "list" T
  | .frl _ => kitB "list" T
  | .tup _ => kitB "tuple" T
  | .dct _ => none
  | .exc _ => none
def fIsI (T : String) : List D → Option Cell
  | [x] => match isT T x with
    | some b => some (vl (.bl b))
    | none => none
  | _ => none
theorem ty_of (K : X.K = G.K) {A : Addr → Prop} {v : V} {x : D} {T : String} {b : Bool} (w : View G A H v x) (e : isT T x = some b) : ∃ t, TyX X.K H v t ∧ PySem.W.kitOne X.K t (.type T) = some b := by
  cases x with
  | non => rw [w.non]; exact ⟨_, .base .non, kit_ty e⟩
  | bl _ => rw [w.bl]; exact ⟨_, .base (.bl _), kit_ty e⟩
  | int _ => rw [w.int]; exact ⟨_, .base (.int _), kit_ty e⟩
  | str _ => rw [w.str.1]; exact ⟨_, .base (.str _), kit_ty e⟩
  | lst _ => obtain ⟨a, ws, rfl, h1, k1⟩ := w.lst; exact ⟨_, .base (.lst h1), kit_ty e⟩
  | frl _ =>
    obtain ⟨a, ws, rfl, h1, k1⟩ := w.frl
    rcases h1 with (h1 | ⟨o, h1⟩) | ⟨o, its, n, h1, h2, _⟩
    · exact ⟨_, .base (.lst h1), kit_ty e⟩
    · exact ⟨_, .base (.frz h1), kit_ty e⟩
    · exact ⟨_, .kList (K ▸ h1) h2, kit_ty e⟩
  | tup _ =>
    obtain ⟨a, ws, rfl, h1, k1⟩ := w.tup
    rcases h1 with (h1 | ⟨o, h1⟩) | ⟨o, its, n, h1, h2, _⟩
    · exact ⟨_, .base (.tup h1), kit_ty e⟩
    · exact ⟨_, .fTuple h1, kit_ty e⟩
    · exact ⟨_, .kTuple (K ▸ h1) h2, kit_ty e⟩
  | dct _ => cases e
  | exc _ => cases e
theorem se_isi {T : String} {tn : Expr} {ep : Pos} (K : X.K = G.K) (hg : Gl X "isinstance") (hm : X.mg "isinstance" = none) (ha : PE X e (tO G W o)) (ht : PE X tn (tC (.ty T)))
    (h1 : starEach [e, tn] X.env = (false, eval e X.env) :: starEach [tn] X.env := by rfl) (h2 : starEach [tn] X.env = (false, eval tn X.env) :: starEach [] X.env := by rfl) (hpl : (backTo pos (starEach [tn] X.env)).any (·.1) = false := by rfl) :
    PE X (.Call (.Name "isinstance" ep) [e, tn] [] pos) (tE G W (eOp (fIsI T) [o])) :=
  (pe_callB call_isi hg hm (by decide +kernel) (pa_cons ha (pa_cons ht pa_nil h2) h1) (by decide) (by decide) h1 hpl).weak fun σ H Q h => tO.mono (fun x H1 q => by
    obtain ⟨g, L, ds, c, rl, vw, e, q⟩ := q
    cases vw with
    | cons w n =>
      cases n
      simp only [fIsI] at e
      split at e
      · rename_i b hb
        cases e
        obtain ⟨t, k1, k2⟩ := ty_of K w hb
        exact ⟨_, .ty T, t, .type T, b, rfl, .ty T, k1, k2, push_bl rl q⟩
      · cases e) (eOp_args h)
end
end Sm

set_option Elab.async false
set_option linter.all false
set_option maxRecDepth 100000
/-! Sm, part F: statements. -/
namespace Sm
open PySem PySem.Spec PyProof.Rows L2

inductive SR where
  | nx (ρ : Env)
  | rt (c : Cell) (ρ : Env)
  | bk (ρ : Env)
  | ct (ρ : Env)
  | exc (e : Nat) (ρ : Env)
  | stk
abbrev DS := Env → SR
def SPost (G : Gam) (g : Nat → V) (T : Tmp) (E : Ends) (W : WX) : SR → Prop
  | .nx ρ' => ∀ σ' H', Rel G g ρ' σ' T H' → E.nx σ' H'
  | .rt c ρ' => ∀ v σ' H', Rel G g ρ' σ' ((c, some v) :: T) H' → E.rt v H'
  | .bk ρ' => ∀ σ' H', Rel G g ρ' σ' T H' → E.bk σ' H'
  | .ct ρ' => ∀ σ' H', Rel G g ρ' σ' T H' → E.ct σ' H'
  | .exc e ρ' => ∀ σ' H', Rel G g ρ' σ' T H' → W (.ref (G.cls e)) none σ' H'
  | .stk => False
/-- the reading of a statement with the denotation d -/
def tS (G : Gam) (W : WX) (d : DS) : TS := fun E σ H => ∃ g ρ T, Rel G g ρ σ T H ∧ SPost G g T E W (d ρ)
section
variable {X : Cx} {st : Stmt} {sts : List Stmt}
theorem _root_.L2.PS.weak {t t' : TS} (h : PS X st t) (w : ∀ E σ H, t' E σ H → t E σ H) : PS X st t' := ⟨fun pins s σ H D I q => h.run pins s σ H D I (w D σ H q)⟩
theorem _root_.L2.PSs.weak {t t' : TS} (h : PSs X sts t) (w : ∀ E σ H, t' E σ H → t E σ H) : PSs X sts t' := ⟨fun pins s σ H D I q => h.run pins s σ H D I (w D σ H q)⟩
theorem _root_.L2.PG.weak {tg : Expr} {t t' : TG} (h : PG X tg t) (w : ∀ v σ H Q, t' v σ H Q → t v σ H Q) : PG X tg t' := ⟨fun pins s σ H v u Q I r q => h.run pins s σ H v u Q I r (w v σ H Q q)⟩
theorem _root_.L2.PI.weak {tg it : Expr} {t t' : TI} (h : PI X tg it t) (w : ∀ σ H R, t' σ H R → t σ H R) : PI X tg it t' := ⟨fun pins s σ H R I q => h.run pins s σ H R I (w σ H R q)⟩
end
def sNil : DS := .nx
def sSeq (a b : DS) : DS := fun ρ => match a ρ with
  | .nx ρ1 => b ρ1
  | r => r
def sIf (t : DE) (a b : DS) : DS := fun ρ => match t ρ with
  | .ok (.c _ _ (.bl true)) ρ1 => a ρ1
  | .ok (.c _ _ (.bl false)) ρ1 => b ρ1
  | .ok _ _ => .stk
  | .exc e ρ1 => .exc e ρ1
  | .stk => .stk
def sExpr (d : DE) : DS := fun ρ => match d ρ with
  | .ok _ ρ1 => .nx ρ1
  | .exc e ρ1 => .exc e ρ1
  | .stk => .stk
def sRet (d : DE) : DS := fun ρ => match d ρ with
  | .ok c ρ1 => .rt c ρ1
  | .exc e ρ1 => .exc e ρ1
  | .stk => .stk
/-- return x: what x alone owns is given to the caller -/
def sRetV (i : Nat) : DS := fun ρ => match ρ[i]? with
  | some (.c true none d) => .rt (ow d) (ρ.set i .emp)
  | some (.c true (some j) d) => .rt (vl d) (ρ.set i (.c false (some j) d))
  | some (.c false _ d) => .rt (vl d) ρ
  | _ => .stk
def sRetN : DS := fun ρ => .rt (vl .non) ρ
def sPass : DS := .nx
def sBrk : DS := .bk
def sCnt : DS := .ct
def un : Cell → Cell
  | .emp => .emp
  | .c o _ d => .c o none d
def sAsg (i : Nat) (d : DE) : DS := fun ρ => match d ρ with
  | .ok c ρ1 => .nx (ρ1.set i (un c))
  | .exc e ρ1 => .exc e ρ1
  | .stk => .stk

section
variable {X : Cx} {G : Gam} {g : Nat → V} {W : WX} {st : Stmt} {sts rest : List Stmt} {e : Expr} {pos : Pos} {T : Tmp} {H : Hp} {ρ : Env} {σ : L2.St} {a b d : DS} {da db : DE}
theorem SPost.mono {E E' : Ends} {r : SR} (h1 : ∀ σ H, E.nx σ H → E'.nx σ H) (h2 : ∀ v H, E.rt v H → E'.rt v H) (h3 : ∀ σ H, E.bk σ H → E'.bk σ H) (h4 : ∀ σ H, E.ct σ H → E'.ct σ H) (k : SPost G g T E W r) : SPost G g T E' W r := by
  cases r with
  | nx ρ => exact fun σ H r => h1 _ _ (k σ H r)
  | rt c ρ => exact fun v σ H r => h2 _ _ (k v σ H r)
  | bk ρ => exact fun σ H r => h3 _ _ (k σ H r)
  | ct ρ => exact fun σ H r => h4 _ _ (k σ H r)
  | exc e ρ => exact k
  | stk => exact k
theorem sss_nil : PSs X [] (tS G W sNil) := pss_nil.weak fun E σ H ⟨g, ρ, T, r, h⟩ => h σ H r
theorem sss_cons (h1 : PS X st (tS G W a)) (h2 : PSs X rest (tS G W b)) : PSs X (st :: rest) (tS G W (sSeq a b)) :=
  (pss_cons h1 h2).weak fun E σ H ⟨g, ρ, T, r, h⟩ => by
    refine ⟨g, ρ, T, r, ?_⟩
    unfold sSeq at h
    cases e : a ρ with
    | nx ρ1 => rw [e] at h; exact fun σ' H' r' => ⟨g, ρ1, T, r', h⟩
    | rt c ρ1 => rw [e] at h; exact h
    | bk ρ1 => rw [e] at h; exact h
    | ct ρ1 => rw [e] at h; exact h
    | exc n ρ1 => rw [e] at h; exact h
    | stk => rw [e] at h; exact h
theorem sss_one (h1 : PS X st (tS G W a)) : PSs X [st] (tS G W a) := pss_one h1
theorem ss_if {c : Expr} {xs ys : List Stmt} (hc : PT X c (tT G W da)) (ha : PSs X xs (tS G W a)) (hb : PSs X ys (tS G W b)) : PS X (.If c xs ys pos) (tS G W (sIf da a b)) :=
  (ps_if hc ha hb).weak fun E σ H ⟨g, ρ, T, r, h⟩ => by
    refine ⟨g, ρ, T, r, ?_⟩
    unfold sIf at h
    cases e : da ρ with
    | stk => rw [e] at h; exact h
    | exc n ρ' => rw [e] at h; exact fun H' r' => h σ H' r'
    | ok c ρ' =>
      rw [e] at h
      cases c with
      | emp => exact h
      | c o b' d =>
        cases d with
        | bl b =>
          intro H' r'
          cases b with
          | true => exact ⟨g, ρ', T, r', h⟩
          | false => exact ⟨g, ρ', T, r', h⟩
        | _ => exact h
theorem ss_expr (he : PE X e (tE G W da)) (hs : swapsWith e none pos.line X.env = pure false := by rfl) : PS X (.Expr e pos) (tS G W (sExpr da)) :=
  (ps_expr he hs).weak fun E σ H ⟨g, ρ, T, r, h⟩ => by
    refine ⟨g, ρ, T, r, ?_⟩
    unfold sExpr at h
    cases e : da ρ with
    | stk => rw [e] at h; exact h
    | exc n ρ' => rw [e] at h; exact fun H' r' => h σ H' r'
    | ok c ρ' => rw [e] at h; exact fun v H' r' => h σ H' r'.pop
theorem ss_ret (he : PE X e (tE G W da)) : PS X (.Return (some e) pos) (tS G W (sRet da)) :=
  (ps_ret he).weak fun E σ H ⟨g, ρ, T, r, h⟩ => by
    refine ⟨g, ρ, T, r, ?_⟩
    unfold sRet at h
    cases e : da ρ with
    | stk => rw [e] at h; exact h
    | exc n ρ' => rw [e] at h; exact fun H' r' => h σ H' r'
    | ok c ρ' => rw [e] at h; exact fun v H' r' => h v σ H' r'
theorem ss_retV {i : Nat} (he : PE X e (tVar i)) : PS X (.Return (some e) pos) (tS G W (sRetV i)) :=
  (ps_ret he).weak fun E σ H ⟨g, ρ, T, r, h⟩ => by
    unfold sRetV at h
    cases e : ρ[i]? with
    | none => rw [e] at h; exact h.elim
    | some c =>
      rw [e] at h
      cases c with
      | emp => exact h.elim
      | c o b d =>
        obtain ⟨v, ev, hm⟩ := r.val_at e
        refine ⟨v, ev, ?_⟩
        cases o with
        | false => exact h v σ H (r.push (r.2.ok _ hm).2)
        | true =>
          obtain ⟨s, L, es, r1, k⟩ := r.take' e
          rw [ev] at es
          cases es
          cases b with
          | none =>
            refine h v σ H (k .emp ((ow d, some v) :: T) H ?_)
            refine (r1.pushE (v := some v)).perm ?_
            exact List.Perm.cons _ (mid_perm _ _ _).symm
          | some j =>
            have r2 := r1.valT (b' := some j) fun _ z => z
            refine h v σ H (k (.c false (some j) d) ((vl d, some v) :: T) H ?_)
            have r4 : RelL G g ((vl d, some v) :: (Cell.c false (some j) d, some v) :: (L ++ T)) H := by
              refine r2.push ?_
              have c := r2.rep
              have e2 : owns ((Cell.c false (some j) d, some v) :: (L ++ T)) = owns (L ++ T) := by rw [owns_cons]; rfl
              rw [e2]
              exact c
            refine r4.perm ?_
            exact (List.Perm.swap ..).trans (List.Perm.cons _ (mid_perm _ _ _).symm)
theorem ss_retN : PS X (.Return none pos) (tS G W sRetN) := ps_retN.weak fun E σ H ⟨g, ρ, T, r, h⟩ => h .non σ H (r.push .non)
theorem ss_pass : PS X (.Pass pos) (tS G W sPass) := ps_pass.weak fun E σ H ⟨g, ρ, T, r, h⟩ => h σ H r
theorem ss_brk : PS X (.Break pos) (tS G W sBrk) := ps_break.weak fun E σ H ⟨g, ρ, T, r, h⟩ => h σ H r
theorem ss_cnt : PS X (.Continue pos) (tS G W sCnt) := ps_continue.weak fun E σ H ⟨g, ρ, T, r, h⟩ => h σ H r
/-- the head goes into slot i -/
theorem Rel.store {i : Nat} {c : Cell} {v : V} (r : Rel G g ρ σ ((c, some v) :: T) H) : Rel G g (ρ.set i (un c)) (σ.set i (some v)) T H := by
  have hu : RelL G g ((un c, some v) :: (ρ.zip σ ++ T)) H := by
    cases c with
    | emp => exact r.head
    | c o b d => exact r.head.retag (fun _ _ => .none)
  cases e : ρ[i]? with
  | none =>
    have hi := List.getElem?_eq_none_iff.mp e
    rw [List.set_eq_of_length_le hi, List.set_eq_of_length_le (by have := r.1; omega)]
    exact r.pop
  | some c0 =>
    obtain ⟨s, L, es, r1, k⟩ := Rel.take (Rel.of_head r.1 hu) e
    refine k (un c) (some v) T H ?_
    refine RelL.tail (p := (c0, s)) (r1.perm ?_)
    exact List.Perm.cons _ (mid_perm _ _ _)
theorem ss_asg {i : Nat} {x : Str} {e : Expr} {pos' : Pos} (hN : X.N.Nodup) (hi : X.N[i]? = some x) (hx : Loc X.env.scope x) (he : PE X e (tE G W da)) (hs : swapsWith e (some (.Name x pos')) pos.line X.env = pure false := by rfl) (hf : X.fn x = true ∨ X.env.scope.names.lookup x = some .local := by first | exact .inl rfl | exact .inr rfl | assumption) :
    PS X (.Assign [.Name x pos'] e pos) (tS G W (sAsg i da)) :=
  (ps_set hN hi hx he hs hf).weak fun E σ H ⟨g, ρ, T, r, h⟩ => by
    refine ⟨g, ρ, T, r, ?_⟩
    unfold sAsg at h
    cases e : da ρ with
    | stk => rw [e] at h; exact h
    | exc n ρ' => rw [e] at h; exact fun H' r' => h σ H' r'
    | ok c ρ' => rw [e] at h; exact fun v H' r' => h _ H' r'.store
end

/-! ### while -/
def whileN (c : DE) (body : DS) : Nat → Env → SR
  | 0, _ => .stk
  | n + 1, ρ => match c ρ with
    | .ok (.c _ _ (.bl true)) ρ1 => match body ρ1 with
      | .nx ρ2 => whileN c body n ρ2
      | .ct ρ2 => whileN c body n ρ2
      | .bk ρ2 => .nx ρ2
      | r => r
    | .ok (.c _ _ (.bl false)) ρ1 => .nx ρ1
    | .ok _ _ => .stk
    | .exc e ρ1 => .exc e ρ1
    | .stk => .stk
def FUEL : Nat := 1000000000000
def sWhile (c : DE) (body : DS) : DS := whileN c body FUEL
section
variable {X : Cx} {G : Gam} {g : Nat → V} {W : WX} {pos : Pos} {a : DS} {da : DE}
theorem ss_while {c : Expr} {body : List Stmt} (hp : PassesOwn (model X.prog X.w) X.A X.env X.xe) (hc : PT X c (tT G W da)) (hb : PSs X body (tS G W a)) : PS X (.While c body [] pos) (tS G W (sWhile da a)) :=
  (ps_while hp hc hb).weak fun E σ H ⟨g, ρ, T, r, h⟩ => by
    refine ⟨fun n σ H => ∃ ρ, Rel G g ρ σ T H ∧ SPost G g T E W (whileN da a n ρ), ⟨FUEL, ρ, r, h⟩, ?_⟩
    rintro n σ H ⟨ρ, r, h⟩
    refine ⟨g, ρ, T, r, ?_⟩
    cases n with
    | zero => exact h.elim
    | succ n =>
      unfold whileN at h
      cases e : da ρ with
      | stk => rw [e] at h; exact h
      | exc n ρ' => rw [e] at h; exact fun H' r' => h σ H' r'
      | ok c ρ1 =>
        rw [e] at h
        cases c with
        | emp => exact h
        | c o b' d =>
          cases d with
          | bl b =>
            intro H' r'
            cases b with
            | false => exact h σ H' r'
            | true =>
              rw [if_pos rfl]
              simp only at h
              refine ⟨fun σ' H' => ∃ ρ', Rel G g ρ' σ' T H' ∧ SPost G g T E W (whileN da a n ρ'), fun σ' H' q => ⟨n, Nat.lt_succ_self n, q⟩, g, ρ1, T, r', ?_⟩
              cases e2 : a ρ1 with
              | nx ρ2 => rw [e2] at h; exact fun σ' H' r2 => ⟨ρ2, r2, h⟩
              | ct ρ2 => rw [e2] at h; exact fun σ' H' r2 => ⟨ρ2, r2, h⟩
              | bk ρ2 => rw [e2] at h; exact fun σ' H' r2 => h σ' H' r2
              | rt c ρ2 => rw [e2] at h; exact h
              | exc n ρ2 => rw [e2] at h; exact h
              | stk => rw [e2] at h; exact h
          | _ => exact h
end

/-! ### what is walked -/
inductive IR where
  | ok (ds : List D) (ρ : Env)
  | exc (e : Nat) (ρ : Env)
  | stk
abbrev DI := Env → IR
/-- an iterator J over the trees ds, while T stands -/
structure Src (G : Gam) (g : Nat → V) (T : Tmp) (J : It) (ds : List D) : Prop where
  go : ∀ (i : Nat) (d : D) (ρ : Env) (σ : L2.St) (H : Hp), ds[i]? = some d → Rel G g ρ σ T H → J.go i H ∧ ∀ x H', J.yld i H x H' → Rel G g ρ σ ((vl d, some x) :: T) H'
  stop : ∀ (ρ : Env) (σ : L2.St) (H : Hp), Rel G g ρ σ T H → J.stop ds.length H
def IPost (G : Gam) (g : Nat → V) (σ : L2.St) (T : Tmp) (R : It → Hp → Prop) (W : WX) : IR → Prop
  | .ok ds ρ' => ∀ J T0 H', Rel G g ρ' σ (T0 ++ T) H' → (∀ M, Src G g (T0 ++ M) J ds) → R J H'
  | .exc e ρ' => ∀ H', Rel G g ρ' σ T H' → W (.ref (G.cls e)) none σ H'
  | .stk => False
def tI (G : Gam) (W : WX) (d : DI) : TI := fun σ H R => ∃ g ρ T, Rel G g ρ σ T H ∧ IPost G g σ T R W (d ρ)

/-! ### targets -/
inductive Tg where
  | nm (i : Nat)
  | tp (is : List Nat)
  | tt (is : List Nat)
def setAll : List Nat → List D → Env → Option Env
  | [], [], ρ => some ρ
  | i :: is, d :: ds, ρ => setAll is ds (ρ.set i (vl d))
  | _, _, _ => none
def asgV : Tg → D → Env → Option Env
  | .nm i, d, ρ => some (ρ.set i (vl d))
  | .tp is, .tup ds, ρ => setAll is ds ρ
  | .tp is, .lst ds, ρ => setAll is ds ρ
  | .tt is, .tup ds, ρ => setAll is ds ρ
  | _, _, _ => none
def Tg.slots : Tg → List Nat
  | .nm i => [i]
  | .tp is => is
  | .tt is => is
/-- but for the slots is all stands -/
def But (is : List Nat) (σ σ' : L2.St) : Prop := σ'.length = σ.length ∧ ∀ j, j ∉ is → σ'[j]? = σ[j]?
theorem But.refl (is : List Nat) (σ : L2.St) : But is σ σ := ⟨rfl, fun _ _ => rfl⟩
theorem But.set {is : List Nat} {σ : L2.St} {i : Nat} {v : Option V} (h : i ∈ is) : But is σ (σ.set i v) := ⟨List.length_set, fun j hj => by
  rw [List.getElem?_set_ne]
  intro z; subst z; exact hj h⟩
theorem But.trans {is : List Nat} {σ σ' σ'' : L2.St} (a : But is σ σ') (b : But is σ' σ'') : But is σ σ'' := ⟨b.1.trans a.1, fun j hj => (b.2 j hj).trans (a.2 j hj)⟩
theorem But.mono {is js : List Nat} {σ σ' : L2.St} (a : But is σ σ') (h : ∀ i ∈ is, i ∈ js) : But js σ σ' := ⟨a.1, fun j hj => a.2 j fun z => hj (h j z)⟩
def tG (G : Gam) (t : Tg) : TG := fun v σ H Q => ∃ g ρ T d, Rel G g ρ σ ((vl d, some v) :: T) H ∧ ∃ ρ', asgV t d ρ = some ρ' ∧ ∀ σ' H', Rel G g ρ' σ' T H' → But t.slots σ σ' → Q σ' H'
section
variable {X : Cx} {G : Gam} {g : Nat → V} {W : WX} {pos : Pos} {T : Tmp} {H : Hp} {ρ : Env} {σ : L2.St}
theorem sg_name {i : Nat} {x : Str} (hN : X.N.Nodup) (hi : X.N[i]? = some x) (hx : Loc X.env.scope x) (hf : X.fn x = true ∨ X.env.scope.names.lookup x = some .local := by first | exact .inl rfl | exact .inr rfl | assumption) : PG X (.Name x pos) (tG G (.nm i)) :=
  (pg_name hN hi hx hf).weak fun v σ H Q ⟨g, ρ, T, d, r, ρ', e, h⟩ => by
    cases e
    exact h _ H r.store (But.set (by simp [Tg.slots]))
/-- names, one after the other -/
structure SGs (X : Cx) (G : Gam) (ts : List Expr) (is : List Nat) : Prop where
  pg : ∃ gs : TGs, PGs X ts gs ∧ ∀ (g : Nat → V) (ρ : Env) (σ : L2.St) (T : Tmp) (H : Hp) (vs : List V) (ds : List D) (ρ' : Env) (Q : L2.St → Hp → Prop), Rel G g ρ σ T H → Reps G (· ∈ owns (ρ.zip σ ++ T)) H vs ds → setAll is ds ρ = some ρ' → (∀ σ', Rel G g ρ' σ' T H → But is σ σ' → Q σ' H) → gs vs σ H Q
  len : ts.length = is.length
theorem sgs_nil : SGs X G [] [] := ⟨⟨gNil, pgs_nil, fun g ρ σ T H vs ds ρ' Q r k e h => by
  cases k with
  | nil => cases e; exact ⟨rfl, h σ r (But.refl _ _)⟩
  | cons _ _ => cases e⟩, rfl⟩
theorem Rel.reps_push {v : V} {d : D} {vs : List V} {ds : List D} (r : Rel G g ρ σ T H) (k : Rep G (· ∈ owns (ρ.zip σ ++ T)) H v d) (i : Nat) (ks : Reps G (· ∈ owns (ρ.zip σ ++ T)) H vs ds) :
    Rel G g (ρ.set i (vl d)) (σ.set i (some v)) T H ∧ Reps G (· ∈ owns ((ρ.set i (vl d)).zip (σ.set i (some v)) ++ T)) H vs ds := by
  have r' := (r.push k).store (i := i)
  refine ⟨r', ks.mono fun a o h n => ⟨h, fun z => n ?_⟩⟩
  have z' : a ∈ owns ((ρ.set i (vl d)).zip (σ.set i (some v)) ++ T) := z
  rw [owns_append] at z' ⊢
  rcases List.mem_append.mp z' with z' | z'
  · refine List.mem_append_left _ ?_
    cases e : ρ[i]? with
    | none =>
      have hi := List.getElem?_eq_none_iff.mp e
      rw [List.set_eq_of_length_le hi, List.set_eq_of_length_le (by have := r.1; omega)] at z'
      exact z'
    | some c0 =>
      obtain ⟨s, es, _⟩ := r.at e
      obtain ⟨L, p1, p2⟩ := zip_set (c' := vl d) (s' := some v) e es
      have h1 := (owns_perm p2).mem_iff.mp z'
      rw [owns_cons] at h1
      refine (owns_perm p1).mem_iff.mpr ?_
      rw [owns_cons]
      split
      · exact List.mem_cons_of_mem _ h1
      · exact h1
  · exact List.mem_append_right _ z'
theorem sgs_cons {i : Nat} {x : Str} {px : Pos} {ts : List Expr} {is : List Nat} (hN : X.N.Nodup) (hi : X.N[i]? = some x) (hx : Loc X.env.scope x) (hr : SGs X G ts is) (hf : X.fn x = true ∨ X.env.scope.names.lookup x = some .local := by first | exact .inl rfl | exact .inr rfl | assumption)
    (hs : (assignEach (.Name x px :: ts) X.env).map (·.2) = assign (.Name x px) X.env :: (assignEach ts X.env).map (·.2) := by rfl) : SGs X G (.Name x px :: ts) (i :: is) := by
  obtain ⟨⟨gs, h1, h2⟩, hl⟩ := hr
  refine ⟨⟨gCons (gName i) gs, pgs_cons (pg_name hN hi hx hf) h1 hs, fun g ρ σ T H vs ds ρ' Q r k e h => ?_⟩, by simp [hl]⟩
  cases k with
  | nil => cases e
  | cons a b =>
    rename_i v vs d ds
    refine ⟨v, vs, rfl, ?_⟩
    obtain ⟨r', k'⟩ := r.reps_push a i b
    exact h2 g _ _ T H vs ds ρ' Q r' k' e fun σ' rr bb => h σ' rr ((But.set List.mem_cons_self).trans (bb.mono fun j hj => List.mem_cons_of_mem _ hj))
theorem setAll_len : ∀ {is : List Nat} {ds : List D} {ρ ρ' : Env}, setAll is ds ρ = some ρ' → ds.length = is.length
  | [], [], _, _, _ => rfl
  | i :: is, d :: ds, ρ, ρ', e => by simp [setAll_len (is := is) (ds := ds) e]
  | [], _ :: _, _, _, e => by cases e
  | _ :: _, [], _, _, e => by cases e
end
end Sm

set_option Elab.async false
set_option linter.all false
set_option maxRecDepth 100000
set_option maxHeartbeats 2000000
/-! Sm, part Q: walks and unpacking, where an exception may be handled. -/
namespace Sm
open PySem PySem.Spec PyProof.Rows L2

/-- nothing is handled, or an exception whose context is None -/
def QtA (A : Around) (h : Heap) : Prop := A.handled = none ∨ ∃ x1, HotX.HotAt A x1 h
def Qt (X : Cx) : Prop := X.calm = true ∨ L2H.HotC X
section
variable {prog : Program} {w : World} {A : Around} {E : Value → Shared → Prop} {s : Shared}
theorem hotKeep {x1 : Addr} {h h' : Heap} (q : HotX.HotAt A x1 h) (k : ∀ o, h.get? x1 = some o → h'.get? x1 = some o) : HotX.HotAt A x1 h' := by
  obtain ⟨e, o, vs, h1, d, c⟩ := q
  exact ⟨e, o, vs, k o h1, d, c⟩
/-- the end of a list's walk, with an exception handled -/
theorem list_end_hot {it l x1 : Addr} {i : Nat} {items : Array Value} {Q : Option Value → Shared → Prop} (hot : HotX.HotAt A x1 s.heap)
    (hit : s.heap.IsListIter it l i) (hl : s.heap.IsList l items) (hx : items[i]? = none)
    (hQ : ∀ h', Heap.ExtBut it s.heap h' → Q none { s with heap := h' }) : wpAny (model prog w) A (pyNext (.ref it)) Q E s := by
  obtain ⟨o, ho, hc, hd⟩ := id hit
  obtain ⟨ol, hol, _, nl, hdl⟩ := hl
  obtain ⟨hh, o1, vs1, h1, d1, c1⟩ := id hot
  have n1 : x1 ≠ it := fun z => by
    rw [z, ho] at h1
    cases h1
    rw [hd] at d1
    cases d1
    simp at c1
  unfold pyNext
  refine wpAny_bind (wpAny_attempt (wpAny_callSpecial?_slot (name := Str.ofString "__next__") hit.typeIs slot_listiter_next (wpAny_call_entry slot_listiter_next hit.typeIs entry_listiter_next ?g (args_listiter_next _))))
  case g =>
    show wpAny _ _ (field (.ref it) 0 >>= _) _ _ s
    refine wpAny_bind (wpAny_field ho hd (x := .ref l) rfl ?_)
    show wpAny _ _ (if (Value.ref l == Value.none) = true then _ else _) _ _ s
    rw [if_neg (show ¬ ((Value.ref l == Value.none) = true) from Bool.false_ne_true)]
    show wpAny _ _ (field (.ref it) 1 >>= _) _ _ s
    refine wpAny_bind (wpAny_field ho hd (x := .int i 0) rfl ?_)
    show wpAny _ _ (seqItems? (.ref l) >>= _) _ _ s
    refine wpAny_bind (wpAny_seqItems hol hdl ?_)
    simp only [Int.toNat_natCast, hx]
    refine wpAny_bind (wpAny_rule (wpAny_bind (wpAny_setField ho hd (by simp) ?_)))
    show wpAny _ _ (newExc (.type "StopIteration") [] >>= _) _ _ _
    refine wpAny_bind ?_
    simp only [newExc, newTuple]
    refine wpAny_bind (wpAny_newObj_type ?_ (by size_fits))
    refine wpAny_bind (m := firstArgMember _ _) (wpAny_of_eq (a := Value.none) (by first | rfl | (simp only [firstArgMember]; rfl)) ?_)
    refine wpAny_newObj_type ?_ (by size_fits)
    have k0 : (s.heap.update it (Obj.mapFields (·.setIfInBounds 0 Value.none))).get? x1 = some o1 := (Heap.get?_update_other _ _ (Ne.symm n1)).trans h1
    have k2 := Heap.get?_push_of_some ({ cls := .type "tuple", data := .seq #[] } : Obj) k0
    refine HotX.raiseNew_hot ⟨hh, o1, vs1, Heap.get?_push_of_some _ (Heap.get?_push_of_some _ k0), d1, c1⟩ (Nat.ne_of_lt (Heap.lt_size (Heap.get?_push_of_some _ k0))) (Heap.get?_push_size _ rfl) rfl (by first | (simp; done) | (simp; omega) | (simp only [Array.size_append]; simp; omega)) ?_
    refine wpAny_bind (wpAny_isInstance (T := "StopIteration") (b := true) ⟨_, Heap.get?_update_self _ (Heap.get?_push_size _ rfl) rfl, rfl⟩ isSubtype_stop ?_)
    refine wpAny_pure (hQ _ fun b ob nb e => ?_)
    have e0 : (s.heap.update it (Obj.mapFields (·.setIfInBounds 0 Value.none))).get? b = some ob := (Heap.get?_update_other _ _ (Ne.symm nb)).trans e
    rw [Heap.get?_update_other _ _ (Nat.ne_of_gt (Heap.lt_size (Heap.get?_push_of_some _ e0)))]
    exact Heap.get?_push_of_some _ (Heap.get?_push_of_some _ e0)
theorem tuple_end_hot {it t x1 : Addr} {i : Nat} {items : Array Value} {Q : Option Value → Shared → Prop} (hot : HotX.HotAt A x1 s.heap)
    (hit : IsTupIter s.heap it t i) (ht : IsTup s.heap t items) (hx : items[i]? = none)
    (hQ : ∀ h', Heap.ExtBut it s.heap h' → Q none { s with heap := h' }) : wpAny (model prog w) A (pyNext (.ref it)) Q E s := by
  obtain ⟨o, ho, hc, hd⟩ := id hit
  obtain ⟨ol, hol, _, nl, hdl⟩ := ht
  obtain ⟨hh, o1, vs1, h1, d1, c1⟩ := id hot
  have n1 : x1 ≠ it := fun z => by
    rw [z, ho] at h1
    cases h1
    rw [hd] at d1
    cases d1
    simp at c1
  unfold pyNext
  refine wpAny_bind (wpAny_attempt (wpAny_callSpecial?_slot (name := Str.ofString "__next__") ⟨o, ho, hc⟩ F.slot_tuple_iterator_next (wpAny_call_entry F.slot_tuple_iterator_next ⟨o, ho, hc⟩ F.entry_tuple_iterator_next ?g (F.args_tuple_iterator_next_1 _))))
  case g =>
    show wpAny _ _ (field (.ref it) 0 >>= _) _ _ s
    refine wpAny_bind (wpAny_field ho hd (x := .ref t) rfl ?_)
    show wpAny _ _ (if (Value.ref t == Value.none) = true then _ else _) _ _ s
    rw [if_neg (show ¬ ((Value.ref t == Value.none) = true) from Bool.false_ne_true)]
    show wpAny _ _ (field (.ref it) 1 >>= _) _ _ s
    refine wpAny_bind (wpAny_field ho hd (x := .int i 0) rfl ?_)
    show wpAny _ _ (seqItems? (.ref t) >>= _) _ _ s
    refine wpAny_bind (wpAny_seqItems hol hdl ?_)
    simp only [Int.toNat_natCast, hx]
    refine wpAny_bind (wpAny_rule (wpAny_bind (wpAny_setField ho hd (by simp) ?_)))
    show wpAny _ _ (newExc (.type "StopIteration") [] >>= _) _ _ _
    refine wpAny_bind ?_
    simp only [newExc, newTuple]
    refine wpAny_bind (wpAny_newObj_type ?_ (by size_fits))
    refine wpAny_bind (m := firstArgMember _ _) (wpAny_of_eq (a := Value.none) (by first | rfl | (simp only [firstArgMember]; rfl)) ?_)
    refine wpAny_newObj_type ?_ (by size_fits)
    have k0 : (s.heap.update it (Obj.mapFields (·.setIfInBounds 0 Value.none))).get? x1 = some o1 := (Heap.get?_update_other _ _ (Ne.symm n1)).trans h1
    refine HotX.raiseNew_hot ⟨hh, o1, vs1, Heap.get?_push_of_some _ (Heap.get?_push_of_some _ k0), d1, c1⟩ (Nat.ne_of_lt (Heap.lt_size (Heap.get?_push_of_some _ k0))) (Heap.get?_push_size _ rfl) rfl (by first | (simp; done) | (simp; omega) | (simp only [Array.size_append]; simp; omega)) ?_
    refine wpAny_bind (wpAny_isInstance (T := "StopIteration") (b := true) ⟨_, Heap.get?_update_self _ (Heap.get?_push_size _ rfl) rfl, rfl⟩ isSubtype_stop ?_)
    refine wpAny_pure (hQ _ fun b ob nb e => ?_)
    have e0 : (s.heap.update it (Obj.mapFields (·.setIfInBounds 0 Value.none))).get? b = some ob := (Heap.get?_update_other _ _ (Ne.symm nb)).trans e
    rw [Heap.get?_update_other _ _ (Nat.ne_of_gt (Heap.lt_size (Heap.get?_push_of_some _ e0)))]
    exact Heap.get?_push_of_some _ (Heap.get?_push_of_some _ e0)
theorem list_end_q {it l : Addr} {i : Nat} {items : Array Value} {Q : Option Value → Shared → Prop} (qt : QtA A s.heap) (hit : s.heap.IsListIter it l i) (hl : s.heap.IsList l items) (hx : items[i]? = none)
    (hQ : ∀ h', Heap.ExtBut it s.heap h' → Q none { s with heap := h' }) : wpAny (model prog w) A (pyNext (.ref it)) Q E s := by
  rcases qt with hh | ⟨x1, hot⟩
  · exact wpAny_pyNext_list_end hh hit hl hx hQ
  · exact list_end_hot hot hit hl hx hQ
theorem tuple_end_q {it t : Addr} {i : Nat} {items : Array Value} {Q : Option Value → Shared → Prop} (qt : QtA A s.heap) (hit : IsTupIter s.heap it t i) (ht : IsTup s.heap t items) (hx : items[i]? = none)
    (hQ : ∀ h', Heap.ExtBut it s.heap h' → Q none { s with heap := h' }) : wpAny (model prog w) A (pyNext (.ref it)) Q E s := by
  rcases qt with hh | ⟨x1, hot⟩
  · exact next_tuple_end hh hit ht hx hQ
  · exact tuple_end_hot hot hit ht hx hQ
theorem unpack_tuple_q {t : Addr} {items : Array Value} {targets : List (Bool × (Value → Sem Unit))} {Q : Unit → Shared → Prop} (qt : QtA A s.heap) (ht : IsTup s.heap t items)
    (hn : targets.length = items.size) (hstar : targets.findIdx? (·.1) = none)
    (h : ∀ h', Heap.ExtBut s.heap.objs.size s.heap h' → wpAny (model prog w) A (assignInOrder (targets.map (·.2)) items.toList) Q E { s with heap := h' }) :
    wpAny (model prog w) A (unpack (.ref t) targets) Q E s := by
  have hlt : t ≠ s.heap.objs.size := by obtain ⟨o, ho, _⟩ := ht; exact Nat.ne_of_lt (Heap.lt_size ho)
  unfold unpack
  rw [hn, hstar]
  refine wpAny_bind (wpAny_holding ?_)
  unfold unpackItems
  refine wpAny_bind ?_
  unfold notIterableAtAll
  refine wpAny_bind (wpAny_specialOf ht.typeIs slot_tuple_iter.lookup ?_)
  refine wpAny_pure ?_
  simp only [Bool.false_eq_true, if_false]
  refine wpAny_bind (wpAny_holding (iter_tuple ht ?_))
  refine wpAny_bind (wpAny_holding (draw_tuple hlt items.size 0 _ _ ⟨_, Heap.get?_push_size _ rfl, rfl, rfl⟩ (ht.push _) (by omega) fun h₁ hit₁ hs₁ => ?_))
  have hall : List.take items.size (List.drop 0 items.toList) = items.toList := by
    rw [List.drop_zero]; exact List.take_of_length_le (by simp)
  rw [hall]
  rw [if_neg (by simp)]
  have ht₁ : IsTup h₁ t items := (ht.push _).extBut hs₁.extBut hlt
  have up : ∀ b o, b ≠ s.heap.objs.size → s.heap.get? b = some o → h₁.get? b = some o := fun b o nb e => hs₁.extBut b o nb (Heap.get?_push_of_some _ e)
  have qt2 : QtA A h₁ := by
    rcases qt with hh | ⟨x1, hot⟩
    · exact .inl hh
    · exact .inr ⟨x1, hotKeep hot fun o e => up x1 o (Nat.ne_of_lt (Heap.lt_size e)) e⟩
  refine wpAny_bind (wpAny_holding (tuple_end_q (s := { s with heap := h₁ }) qt2 hit₁ ht₁ (by simp) fun h₂ he₂ => ?_))
  simp only [Option.isSome_none, Bool.false_eq_true, if_false]
  exact wpAny_pure (h h₂ fun b o hb e => he₂ b o hb (up b o hb e))
end
section
variable {X : Cx} {pins : List (Addr × Obj)} {σ : L2.St} {H : Hp} {s : Shared} {pos : Pos}
theorem Qt.at (q : Qt X) (I : Inv X pins σ H s) : QtA X.A s.heap := by
  rcases q with q | q
  · exact .inl (I.ok.hd q)
  · exact .inr (q.at I)
/-- (a, b, ..) = a tuple of that length, calm or hot -/
theorem pg_tupQ {es : List Expr} {k : Nat} {t : TGs} {n : Nat} (hc : Qt X) (h : PGs X es t)
    (hn : (assignEach es X.env).length = n := by rfl) (hst : (assignEach es X.env).findIdx? (·.1) = none := by rfl) : PG X (.Tuple es k pos) (gTup X.K n t) := by
  refine ⟨fun pins s σ H v u Q I r hw => ?_⟩
  obtain ⟨a, xs, e1, hq, hl, hw⟩ := hw
  subst e1
  cases r
  obtain ⟨its, rv, ht, hz⟩ := I.tuple hq
  show wpAny _ _ (do standAt pos; unpack (.ref a) (assignEach es X.env)) _ _ _
  refine wpAny_bind (wpAny_standAt ?_)
  refine unpack_tuple_q (hc.at I) ht (by simp [hn, ← hl, rv.length]) hst fun h' hx => ?_
  have I1 : Inv X pins σ H { s with heap := h' } := I.kept (t' := s.toks) fun b o e => hx b o (Nat.ne_of_lt (Heap.lt_size e)) e
  exact h.run pins _ σ H xs _ Q I1 (by simpa using rv) hw
end
end Sm

set_option Elab.async false
set_option linter.all false
set_option maxRecDepth 100000
set_option maxHeartbeats 1000000
/-! Sm, part G: tuple targets, what is walked, for. -/
namespace Sm
open PySem PySem.Spec PyProof.Rows L2

section
variable {X : Cx} {G : Gam} {g : Nat → V} {W : WX} {pos : Pos} {T : Tmp} {H : Hp} {ρ : Env} {σ : L2.St}
theorem _root_.L2.PG.or {tg : Expr} {t t' : TG} (h : PG X tg t) (h' : PG X tg t') : PG X tg (fun v σ H Q => t v σ H Q ∨ t' v σ H Q) := ⟨fun pins s σ H v u Q I r q => q.elim (h.run pins s σ H v u Q I r) (h'.run pins s σ H v u Q I r)⟩
theorem Rel.pops {v : V} {o : Bool} {b : Option Nat} {d : D} (r : Rel G g ρ σ ((.c o b d, some v) :: T) H) : Rel G g ρ σ T H := r.pop
theorem sub_owns {v : V} {d : D} (a : Addr) (h : a ∈ owns (ρ.zip σ ++ T)) : a ∈ owns (ρ.zip σ ++ (vl d, some v) :: T) := by
  rw [owns_append] at *
  rcases List.mem_append.mp h with h | h
  · exact List.mem_append_left _ h
  · refine List.mem_append_right _ ?_
    rw [owns_cons]
    exact h
theorem rep_at {v : V} {d : D} (r : Rel G g ρ σ ((vl d, some v) :: T) H) : Rep G (· ∈ owns (ρ.zip σ ++ T)) H v d := r.head.rep
/-- a tuple into names, calm or hot -/
theorem sg_tt {es : List Expr} {is : List Nat} {k : Nat} (K : X.K = G.K) (hc : Qt X) (h : SGs X G es is) (hn : (assignEach es X.env).length = is.length := by rfl) (hst : (assignEach es X.env).findIdx? (·.1) = none := by rfl) : PG X (.Tuple es k pos) (tG G (.tt is)) := by
  obtain ⟨⟨gs, h1, h2⟩, hl⟩ := h
  refine (pg_tupQ hc h1 hn hst).weak fun v σ H Q ⟨g, ρ, T, d, r, ρ', e, q⟩ => ?_
  cases d with
  | tup ds =>
    have rp := rep_at r
    have w : View G (· ∈ owns (ρ.zip σ ++ T)) H v (.tup ds) := .inl rp
    obtain ⟨a, vs, rfl, s, ks⟩ := w.tup
    exact ⟨a, vs, rfl, K ▸ s, by rw [ks.length]; exact setAll_len e, h2 g ρ σ T H vs ds ρ' Q r.pop ks e fun σ' rr bb => q σ' H rr bb⟩
  | _ => cases e
theorem sg_tp {es : List Expr} {is : List Nat} {k : Nat} (K : X.K = G.K) (hc : X.calm = true) (h : SGs X G es is) (hn : (assignEach es X.env).length = is.length := by rfl) (hst : (assignEach es X.env).findIdx? (·.1) = none := by rfl) : PG X (.Tuple es k pos) (tG G (.tp is)) := by
  obtain ⟨⟨gs, h1, h2⟩, hl⟩ := h
  refine ((pg_tup hc h1 hn hst).or (pg_unl hc h1 hn hst)).weak fun v σ H Q ⟨g, ρ, T, d, r, ρ', e, q⟩ => ?_
  have rp := rep_at r
  cases d with
  | tup ds =>
    have w : View G (· ∈ owns (ρ.zip σ ++ T)) H v (.tup ds) := .inl rp
    obtain ⟨a, vs, rfl, s, ks⟩ := w.tup
    exact .inl ⟨a, vs, rfl, K ▸ s, by rw [ks.length]; exact setAll_len e, h2 g ρ σ T H vs ds ρ' Q r.pop ks e fun σ' rr bb => q σ' H rr bb⟩
  | lst ds =>
    have w : View G (· ∈ owns (ρ.zip σ ++ T)) H v (.lst ds) := .inl rp
    obtain ⟨a, vs, rfl, s, ks⟩ := w.lst
    exact .inr ⟨a, vs, rfl, SqL.of s, by rw [ks.length]; exact setAll_len e, h2 g ρ σ T H vs ds ρ' Q r.pop ks e fun σ' rr bb => q σ' H rr bb⟩
  | _ => cases e
end

/-! ### walked: lists, tuples, texts -/
def chrD (s : Str) : List D := s.cps.toList.map fun c => .str ⟨#[c]⟩
def itemsD : D → Option (List D)
  | .lst xs => some xs
  | .frl xs => some xs
  | .tup xs => some xs
  | .str s => some (chrD s)
  | _ => none
def iAny (d : DE) : DI := fun ρ => match d ρ with
  | .ok (.c _ _ x) ρ' => match itemsD x with
    | some ds => .ok ds ρ'
    | none => .stk
  | .ok _ _ => .stk
  | .exc e ρ' => .exc e ρ'
  | .stk => .stk
def rngD (lo : Int) (n : Nat) : List D := (List.range n).map fun (i : Nat) => D.int (lo + (i : Int))
def rngOk (i : Int) : Bool := decide (-(2 ^ 62) ≤ i) && decide (i < 2 ^ 62)
def iRange1 (d : DE) : DI := fun ρ => match d ρ with
  | .ok (.c _ _ (.int n)) ρ' => if rngOk n then .ok (rngD 0 n.toNat) ρ' else .stk
  | .ok _ _ => .stk
  | .exc e ρ' => .exc e ρ'
  | .stk => .stk
def iRange2 (a b : DE) : DI := fun ρ => match a ρ with
  | .ok (.c _ _ (.int i)) ρ1 => match b ρ1 with
    | .ok (.c _ _ (.int j)) ρ2 => if rngOk i && rngOk j then .ok (rngD i (j - i).toNat) ρ2 else .stk
    | .ok _ _ => .stk
    | .exc e ρ2 => .exc e ρ2
    | .stk => .stk
  | .ok _ _ => .stk
  | .exc e ρ1 => .exc e ρ1
  | .stk => .stk
section
variable {X : Cx} {G : Gam} {g : Nat → V} {W : WX} {pos : Pos} {T : Tmp} {H : Hp} {ρ : Env} {σ : L2.St} {tg iter : Expr} {da db : DE}
theorem src_list (K : X.K = G.K) {o : Bool} {b : Option Nat} {a : Addr} {ds : List D} {D' : D} (hd : D' = .lst ds ∨ D' = .frl ds) : Src G g ((.c o b D', some (.ref a)) :: T) (Itl X.K a) ds := by
  have look : ∀ {ρ : Env} {σ : L2.St} {H : Hp}, Rel G g ρ σ ((.c o b D', some (.ref a)) :: T) H → ∃ vs, SqL X.K H a vs ∧ Reps G (· ∈ owns (ρ.zip σ ++ (.c o b D', some (.ref a)) :: T)) H vs ds := fun {ρ σ H} r => by
    have w := r.2.view (List.mem_append_right _ List.mem_cons_self)
    rcases hd with rfl | rfl
    · obtain ⟨a', vs, e, s, ks⟩ := w.lst
      cases e
      exact ⟨vs, SqL.of s, ks⟩
    · obtain ⟨a', vs, e, s, ks⟩ := w.frl
      cases e
      exact ⟨vs, K ▸ s, ks⟩
  constructor
  · intro i d ρ σ H e r
    obtain ⟨vs, s, ks⟩ := look r
    obtain ⟨v, ev, rv⟩ := ks.get e
    refine ⟨⟨vs, v, s, ev⟩, fun x H' y => ?_⟩
    obtain ⟨rfl, y⟩ := y
    have := y vs s
    rw [ev] at this
    cases this
    exact r.push rv
  · intro ρ σ H r
    obtain ⟨vs, s, ks⟩ := look r
    exact ⟨vs, s, Nat.le_of_eq ks.length⟩
theorem src_tup (K : X.K = G.K) {o : Bool} {b : Option Nat} {a : Addr} {ds : List D} : Src G g ((.c o b (.tup ds), some (.ref a)) :: T) (Itt X.K a) ds := by
  have look : ∀ {ρ : Env} {σ : L2.St} {H : Hp}, Rel G g ρ σ ((.c o b (.tup ds), some (.ref a)) :: T) H → ∃ vs, SqT X.K H a vs ∧ Reps G (· ∈ owns (ρ.zip σ ++ (.c o b (.tup ds), some (.ref a)) :: T)) H vs ds := fun {ρ σ H} r => by
    have w := r.2.view (List.mem_append_right _ List.mem_cons_self)
    obtain ⟨a', vs, e, s, ks⟩ := w.tup
    cases e
    exact ⟨vs, K ▸ s, ks⟩
  constructor
  · intro i d ρ σ H e r
    obtain ⟨vs, s, ks⟩ := look r
    obtain ⟨v, ev, rv⟩ := ks.get e
    refine ⟨⟨vs, v, s, ev⟩, fun x H' y => ?_⟩
    obtain ⟨rfl, y⟩ := y
    have := y vs s
    rw [ev] at this
    cases this
    exact r.push rv
  · intro ρ σ H r
    obtain ⟨vs, s, ks⟩ := look r
    exact ⟨vs, s, Nat.le_of_eq ks.length⟩
theorem src_str {o : Bool} {b : Option Nat} {z : Str} {v : V} : Src G g ((.c o b (.str z), some v) :: T) (Its z) (chrD z) := by
  constructor
  · intro i d ρ σ H e r
    unfold chrD at e
    rw [List.getElem?_map] at e
    cases q : z.cps.toList[i]? with
    | none => rw [q] at e; cases e
    | some c =>
      rw [q] at e
      cases e
      have w := r.2.view (List.mem_append_right _ List.mem_cons_self)
      have q2 : z.cps[i]? = some c := by simpa using q
      refine ⟨(Array.getElem?_eq_some_iff.mp q2).1, fun x H' y => ?_⟩
      obtain ⟨rfl, c', e1, rfl⟩ := y
      rw [q2] at e1
      cases e1
      exact r.push (.str _ (txtOk_one w.str.2 q))
  · intro ρ σ H r
    show z.cps.size ≤ (chrD z).length
    simp [chrD]
theorem src_rng {lo : Int} {n : Nat} : Src G g T (Itr lo n) (rngD lo n) := by
  constructor
  · intro i d ρ σ H e r
    unfold rngD at e
    rw [List.getElem?_map] at e
    cases q : (List.range n)[i]? with
    | none => rw [q] at e; cases e
    | some j =>
      rw [q] at e
      cases e
      obtain ⟨hi, e2⟩ := List.getElem?_eq_some_iff.mp q
      rw [List.getElem_range] at e2
      subst e2
      refine ⟨(show i < n by simpa using hi), fun x H' y => ?_⟩
      obtain ⟨rfl, rfl⟩ := y
      exact r.push (.int _)
  · intro ρ σ H r
    show n ≤ (rngD lo n).length
    simp [rngD]
/-- any of the three, by PI's own words -/
def iThree (K : PySem.W.Frag) (te : TE) : TI := fun σ H R => te σ H fun x H1 => (∃ a, x = .ref a ∧ (∃ xs, SqL K H1 a xs) ∧ R (Itl K a) H1) ∨ (∃ a, x = .ref a ∧ (∃ xs, SqT K H1 a xs) ∧ R (Itt K a) H1) ∨ ∃ z, x = .str z ∧ R (Its z) H1
theorem pi_three {te : TE} (h : PE X iter te) : PI X tg iter (iThree X.K te) := by
  refine ⟨fun pins s σ H R I q => ?_⟩
  refine thn (h.run pins s σ H _ I q) fun v s1 ⟨x, H1, I1, r1, q1⟩ => ?_
  -- the value, evaluated already: a PE of its own that gives it
  rcases q1 with ⟨a, rfl, ⟨xs, hq⟩, q⟩ | ⟨a, rfl, ⟨xs, hq⟩, q⟩ | ⟨z, rfl, q⟩
  · cases r1
    obtain ⟨its, rv, p, hz⟩ := I1.list hq
    refine wpAny_pyIter_list p.isList ?_
    refine ⟨s1.heap.objs.size, [s1.heap.objs.size], _, _, H1, rfl, I1.kept (t' := s1.toks) fun b o e => Heap.get?_push_of_some _ e, turn_list a _, ⟨_, Heap.get?_push_size _ rfl, rfl, rfl⟩, fun b hb => ?_, q⟩
    rw [List.mem_singleton.mp hb]
    exact I1.fpOk (Nat.le_refl _) (I1.hok.fresh (Nat.le_refl _))
  · cases r1
    obtain ⟨its, rv, p, hz⟩ := I1.tuple hq
    refine wpAny_pyIter_tuple (show s1.heap.IsTuple a its.toArray from p) ?_
    refine ⟨s1.heap.objs.size, [s1.heap.objs.size], _, _, H1, rfl, I1.kept (t' := s1.toks) fun b o e => Heap.get?_push_of_some _ e, turn_tuple a _, ⟨_, Heap.get?_push_size _ rfl, rfl, rfl⟩, fun b hb => ?_, q⟩
    rw [List.mem_singleton.mp hb]
    exact I1.fpOk (Nat.le_refl _) (I1.hok.fresh (Nat.le_refl _))
  · obtain ⟨t, rfl⟩ := r1
    cases ha : z.cps.all (· < 128) with
    | false => exact wpAny_pyIter_wide ha (pi_one (tk := s1.toks) I1 _ (turn_str _ z t "str_iterator" (.inr rfl)) ⟨_, Heap.get?_push_size _ rfl, rfl, rfl⟩ q)
    | true => exact wpAny_pyIter_ascii ha (pi_one (tk := s1.toks) I1 _ (turn_str _ z t "str_ascii_iterator" (.inl rfl)) ⟨_, Heap.get?_push_size _ rfl, rfl, rfl⟩ q)
theorem si_any (K : X.K = G.K) (h : PE X iter (tE G W da)) : PI X tg iter (tI G W (iAny da)) :=
  (pi_three h).weak fun σ H R ⟨g, ρ, T, r, h⟩ => by
    refine ⟨g, ρ, T, r, ?_⟩
    unfold iAny at h
    cases e : da ρ with
    | stk => rw [e] at h; exact h
    | exc n ρ' => rw [e] at h; exact h
    | ok c ρ' =>
      rw [e] at h
      cases c with
      | emp => exact h.elim
      | c o b d =>
        simp only at h
        intro v H' r'
        have w := r'.2.view (List.mem_append_right _ List.mem_cons_self)
        cases d with
        | lst ds =>
          obtain ⟨a, vs, rfl, s, ks⟩ := w.lst
          exact .inl ⟨a, rfl, ⟨vs, SqL.of s⟩, h _ [_] H' r' (fun _ => src_list K (.inl rfl))⟩
        | frl ds =>
          obtain ⟨a, vs, rfl, s, ks⟩ := w.frl
          exact .inl ⟨a, rfl, ⟨vs, K ▸ s⟩, h _ [_] H' r' (fun _ => src_list K (.inr rfl))⟩
        | tup ds =>
          obtain ⟨a, vs, rfl, s, ks⟩ := w.tup
          exact .inr (.inl ⟨a, rfl, ⟨vs, K ▸ s⟩, h _ [_] H' r' (fun _ => src_tup K)⟩)
        | str z => exact .inr (.inr ⟨z, w.str.1, h _ [_] H' r' (fun _ => src_str)⟩)
        | _ => exact h.elim
theorem rng_of {i : Int} (h : rngOk i = true) : -(2 ^ 62) ≤ i ∧ i < 2 ^ 62 := by
  unfold rngOk at h
  simp only [Bool.and_eq_true, decide_eq_true_eq] at h
  exact h
theorem si_range1 {a : Expr} {p : Pos} (hg : Gl X "range") (hm : X.mg "range" = none) (ha : PE X a (tE G W da)) (h1 : starEach [a] X.env = (false, eval a X.env) :: starEach [] X.env := by rfl) (hs : starEach [a] X.env = [(false, eval a X.env)] := by rfl) :
    PI X tg (.Call (.Name "range" p) [a] [] pos) (tI G W (iRange1 da)) :=
  (pi_range1 hg hm (pa_cons ha pa_nil h1) hs).weak fun σ H R ⟨g, ρ, T, r, h⟩ => by
    refine ⟨g, ρ, T, r, ?_⟩
    unfold iRange1 at h
    cases e : da ρ with
    | stk => rw [e] at h; exact h
    | exc n ρ' => rw [e] at h; exact h
    | ok c ρ' =>
      rw [e] at h
      intro v H' r'
      cases c with
      | emp => exact h.elim
      | c o b d =>
        cases d with
        | int n =>
          have := int_of r'; subst this
          simp only at h
          split at h
          · rename_i hr
            obtain ⟨k1, k2⟩ := rng_of hr
            exact ⟨n, rfl, k1, k2, h _ [] H' r'.pop (fun _ => src_rng)⟩
          · exact h.elim
        | _ => exact h.elim
theorem si_range2 {a b : Expr} {p : Pos} (hg : Gl X "range") (hm : X.mg "range" = none) (ha : PE X a (tE G W da)) (hb : PE X b (tE G W db))
    (h1 : starEach [a, b] X.env = (false, eval a X.env) :: starEach [b] X.env := by rfl) (h2 : starEach [b] X.env = (false, eval b X.env) :: starEach [] X.env := by rfl)
    (hs : starEach [a, b] X.env = [(false, eval a X.env), (false, eval b X.env)] := by rfl) (hs2 : starEach [b] X.env = [(false, eval b X.env)] := by rfl) :
    PI X tg (.Call (.Name "range" p) [a, b] [] pos) (tI G W (iRange2 da db)) :=
  (pi_range2 hg hm (pa_cons ha (pa_cons hb pa_nil h2) h1) hs hs2).weak fun σ H R ⟨g, ρ, T, r, h⟩ => by
    refine ⟨g, ρ, T, r, ?_⟩
    unfold iRange2 at h
    cases e : da ρ with
    | stk => rw [e] at h; exact h
    | exc n ρ' => rw [e] at h; exact h
    | ok c ρ1 =>
      rw [e] at h
      intro v H' r'
      cases c with
      | emp => exact h.elim
      | c o b d =>
        cases d with
        | int i =>
          have := int_of r'; subst this
          simp only at h
          refine ⟨g, ρ1, T, r'.pop, ?_⟩
          cases e2 : db ρ1 with
          | stk => rw [e2] at h; exact h
          | exc n ρ' => rw [e2] at h; exact h
          | ok c ρ2 =>
            rw [e2] at h
            intro v2 H2 r2
            cases c with
            | emp => exact h.elim
            | c o b d =>
              cases d with
              | int j =>
                have := int_of r2; subst this
                simp only at h
                split at h
                · rename_i hr
                  rw [Bool.and_eq_true] at hr
                  obtain ⟨k1, k2⟩ := rng_of hr.1
                  obtain ⟨k3, k4⟩ := rng_of hr.2
                  exact ⟨i, j, rfl, ⟨k1, k2, k3, k4⟩, h _ [] H2 r2.pop (fun _ => src_rng)⟩
                · exact h.elim
              | _ => exact h.elim
        | _ => exact h.elim
end

/-! ### for -/
def forL (t : Tg) (body : DS) : List D → Env → SR
  | [], ρ => .nx ρ
  | d :: ds, ρ => match asgV t d ρ with
    | none => .stk
    | some ρ1 => match body ρ1 with
      | .nx ρ2 => forL t body ds ρ2
      | .ct ρ2 => forL t body ds ρ2
      | .bk ρ2 => .nx ρ2
      | r => r
def sFor (it : DI) (t : Tg) (body : DS) : DS := fun ρ => match it ρ with
  | .ok ds ρ1 => forL t body ds ρ1
  | .exc e ρ1 => .exc e ρ1
  | .stk => .stk
section
variable {X : Cx} {G : Gam} {g : Nat → V} {W : WX} {pos : Pos} {T : Tmp} {H : Hp} {ρ : Env} {σ : L2.St} {tg iter : Expr} {da db : DE}
theorem Src.more {J : It} {ds : List D} {T0 : Tmp} (s : Src G g (T0 ++ T) J ds) : Src G g (T0 ++ T) J ds := s
theorem ss_for {t : Tg} {di : DI} {a : DS} {body : List Stmt} (hp : PassesOwn (model X.prog X.w) X.A X.env X.xe) (hc : X.calm = true) (hi : PI X tg iter (tI G W di)) (hg : PG X tg (tG G t)) (hb : PSs X body (tS G W a))
    (hs : ∀ x, foldedSetIterable iter X.env x = pure x := by intro _; rfl) : PS X (.For tg iter body [] pos) (tS G W (sFor di t a)) :=
  (ps_for hp hc hi hg hb hs).weak fun E σ H ⟨g, ρ, T, r, h⟩ => by
    refine ⟨g, ρ, T, r, ?_⟩
    unfold sFor at h
    cases e : di ρ with
    | stk => rw [e] at h; exact h
    | exc n ρ' => rw [e] at h; exact fun H' r' => h σ H' r'
    | ok ds ρ1 =>
      rw [e] at h
      intro J T0 H1 r1 src
      have src := src T
      refine ⟨fun i m σ H => m = ds.length - i ∧ i ≤ ds.length ∧ ∃ ρ, Rel G g ρ σ (T0 ++ T) H ∧ SPost G g T E W (forL t a (ds.drop i) ρ), ⟨ds.length, by simp, Nat.zero_le _, ρ1, r1, h⟩, ?_⟩
      rintro i m σ H ⟨rfl, hi, ρ, r, h⟩
      by_cases hlt : i < ds.length
      · rw [List.drop_eq_getElem_cons hlt] at h
        unfold forL at h
        obtain ⟨go, yl⟩ := src.go i ds[i] ρ σ H (List.getElem?_eq_getElem hlt) r
        refine .inr ⟨go, fun σ' H' => ∃ ρ', Rel G g ρ' σ' (T0 ++ T) H' ∧ SPost G g T E W (forL t a (ds.drop (i + 1)) ρ'), fun σ' H' q => ⟨ds.length - (i + 1), by omega, rfl, hlt, q⟩, fun x H' y => ?_⟩
        have rx := yl x H' y
        cases q : asgV t ds[i] ρ with
        | none => rw [q] at h; exact h.elim
        | some ρ2 =>
          rw [q] at h
          refine ⟨g, ρ, T0 ++ T, ds[i], rx, ρ2, q, fun σ2 H2 r2 _ => ⟨g, ρ2, T0 ++ T, r2, ?_⟩⟩
          simp only at h
          cases e2 : a ρ2 with
          | nx ρ3 => rw [e2] at h; exact fun σ3 H3 r3 => ⟨ρ3, r3, h⟩
          | ct ρ3 => rw [e2] at h; exact fun σ3 H3 r3 => ⟨ρ3, r3, h⟩
          | bk ρ3 => rw [e2] at h; exact fun σ3 H3 r3 => h σ3 H3 r3.dropM
          | rt c ρ3 =>
            rw [e2] at h
            intro v σ3 H3 r3
            refine h v σ3 H3 (Rel.dropM (M := T0) ?_)
            exact ⟨r3.1, r3.2.perm (List.Perm.append_left _ (mid_perm _ T0 T).symm)⟩
          | exc n ρ3 => rw [e2] at h; exact fun σ3 H3 r3 => h σ3 H3 r3.dropM
          | stk => rw [e2] at h; exact h
      · have e3 : i = ds.length := by omega
        subst e3
        rw [List.drop_length] at h
        exact .inl ⟨src.stop ρ σ H r, h σ H r.dropM⟩
end
end Sm

set_option Elab.async false
set_option linter.all false
set_option maxRecDepth 100000
set_option maxHeartbeats 1000000
/-! Sm, part H: calls of defs, bodies of defs. -/
namespace Sm
open PySem PySem.Spec PyProof.Rows L2

inductive FR where
  | ok (c : Cell) (cs : List Cell)
  | exc (e : Nat) (cs : List Cell)
  | stk
abbrev Fn := List Cell → FR
def unT (L : Tmp) : Tmp := L.map fun p => (un p.1, p.2)
/-- whatever the tags mean -/
def RelU (G : Gam) (L : Tmp) (H : Hp) : Prop := ∀ g, RelL G g (unT L) H
def Tags (g : Nat → V) (L : Tmp) : Prop := ∀ o b d v, (Cell.c o b d, some v) ∈ L → TagOk g b v
section
variable {G : Gam} {g g' : Nat → V} {L M : Tmp} {H : Hp}
theorem ownA_un (p : Cell × Option V) : ownA (un p.1, p.2) = ownA p := by
  obtain ⟨c, v⟩ := p
  cases c with
  | emp => rfl
  | c o b d => cases o with
    | false => rfl
    | true => cases v with
      | none => rfl
      | some v => cases v <;> rfl
theorem owns_unT (L : Tmp) : owns (unT L) = owns L := by
  unfold owns unT
  rw [List.filterMap_map]
  congr 1
  funext p
  exact ownA_un p
theorem CellOk.un {A : Addr → Prop} {p : Cell × Option V} (c : CellOk G g A H p) : CellOk G g' A H (un p.1, p.2) := by
  obtain ⟨c', v⟩ := p
  cases c' with
  | emp => trivial
  | c o b d => cases o with
    | false => cases v with
      | none => exact c.elim
      | some v => exact ⟨.none, c.2⟩
    | true => cases v with
      | none => exact c.elim
      | some v => cases v with
        | ref a => exact ⟨.none, c.2⟩
        | _ => exact c.elim
theorem RelL.u (r : RelL G g L H) : RelU G L H := fun g' => by
  refine ⟨fun p hp => ?_, by rw [owns_unT]; exact r.nd, r.tab⟩
  rw [owns_unT]
  obtain ⟨q, hq, rfl⟩ := List.mem_map.mp hp
  exact (r.ok q hq).un
theorem RelL.tags (r : RelL G g L H) : Tags g L := fun o b d v h => by
  have c := r.ok _ h
  cases o with
  | false => exact c.1
  | true => cases v with
    | ref a => exact c.1
    | _ => exact c.elim
theorem RelU.tag (r : RelU G L H) (t : Tags g L) : RelL G g L H := by
  have r' := r g
  refine ⟨fun p hp => ?_, by rw [← owns_unT]; exact r'.nd, r'.tab⟩
  have c := r'.ok (Sm.un p.1, p.2) (List.mem_map.mpr ⟨p, hp, rfl⟩)
  rw [owns_unT] at c
  obtain ⟨c', v⟩ := p
  cases c' with
  | emp => trivial
  | c o b d => cases o with
    | false => cases v with
      | none => exact c.elim
      | some v => exact ⟨t _ _ _ _ hp, c.2⟩
    | true => cases v with
      | none => exact c.elim
      | some v => cases v with
        | ref a => exact ⟨t _ _ _ _ hp, c.2⟩
        | _ => exact c.elim
theorem RelU.perm (r : RelU G L H) (p : L.Perm M) : RelU G M H := fun g => (r g).perm (p.map _)
theorem RelU.tail {p : Cell × Option V} (r : RelU G (p :: L) H) : RelU G L H := fun g => (r g).tail
theorem unT_append (L M : Tmp) : unT (L ++ M) = unT L ++ unT M := List.map_append
theorem RelU.re (r : RelU G L H) (h : unT M = unT L) : RelU G M H := fun g => by rw [h]; exact r g
theorem un_un (c : Cell) : un (un c) = un c := by cases c <;> rfl
end
/-- the operands as arguments, one after the other; a name that owns its object lends it -/
def takeA : List Opd → List (Option Cell) → Env → Option (List Cell × Env)
  | [], [], ρ => some ([], ρ)
  | .nm i :: os, none :: cs, ρ => match ρ[i]? with
    | some (.c true _ d) => match takeA os cs (ρ.set i .emp) with
      | some (as, ρ') => some (ow d :: as, ρ')
      | none => none
    | some (.c false _ d) => match takeA os cs ρ with
      | some (as, ρ') => some (vl d :: as, ρ')
      | none => none
    | _ => none
  | .ex _ :: os, some (.c o _ d) :: cs, ρ => match takeA os cs ρ with
    | some (as, ρ') => some (.c o none d :: as, ρ')
    | none => none
  | _, _, _ => none
/-- what was lent comes back: ρ0 tells what lent -/
def giveB (ρ0 : Env) : List Opd → List Cell → Env → Env
  | .nm i :: os, c :: cs, ρ => match ρ0[i]?, c with
    | some (.c true b _), .c o _ d => giveB ρ0 os cs (ρ.set i (.c o b d))
    | _, _ => giveB ρ0 os cs ρ
  | .ex _ :: os, _ :: cs, ρ => giveB ρ0 os cs ρ
  | _, _, ρ => ρ
def eCall (F : Fn) (os : List Opd) : DE := fun ρ => match evO os ρ with
  | .ok cs ρ1 => match takeA os cs ρ1 with
    | some (as, ρ2) => match F as with
      | .ok c as' => .ok (un c) (giveB ρ1 os as' ρ2)
      | .exc e as' => .exc e (giveB ρ1 os as' ρ2)
      | .stk => .stk
    | none => .stk
  | .exc e ρ1 => .exc e ρ1
  | .stk => .stk
/-- at a def's start, at its end -/
def startC : Nat → List Cell → List Cell
  | _, [] => []
  | j, .c true _ d :: r => .c true (some j) d :: startC (j + 1) r
  | j, .c false _ d :: r => vl d :: startC (j + 1) r
  | j, .emp :: r => .emp :: startC (j + 1) r
def endC (ρ : Env) : Nat → List Cell → Option (List Cell)
  | _, [] => some []
  | j, .c true _ _ :: r => match ρ[j]? with
    | some (.c o (some j') d) => if j' = j then match endC ρ (j + 1) r with
        | some cs => some (.c o none d :: cs)
        | none => none
      else none
    | _ => none
  | j, _ :: r => match endC ρ (j + 1) r with
    | some cs => some (.emp :: cs)
    | none => none
def mkF (np ns : Nat) (body : DS) : Fn := fun cs => if cs.length = np then match body (startC 0 cs ++ List.replicate (ns - np) .emp) with
    | .nx ρ => match endC ρ 0 cs with
      | some cs' => .ok (vl .non) cs'
      | none => .stk
    | .rt c ρ => match endC ρ 0 cs with
      | some cs' => .ok c cs'
      | none => .stk
    | .exc e ρ => match endC ρ 0 cs with
      | some cs' => .exc e cs'
      | none => .stk
    | _ => .stk
  else .stk
/-- the promise of a def -/
def spF (G : Gam) (F : Fn) : Sp := fun vs H Q E => ∃ (cs : List Cell) (T : Tmp), cs.length = vs.length ∧ RelU G (cs.zip (vs.map some) ++ T) H ∧
  match F cs with
  | .ok c cs' => ∀ v H', cs'.length = vs.length → RelU G ((c, some v) :: (cs'.zip (vs.map some) ++ T)) H' → Q v H'
  | .exc e cs' => ∀ H', cs'.length = vs.length → RelU G (cs'.zip (vs.map some) ++ T) H' → E (.ref (G.cls e)) none H'
  | .stk => False

section
variable {X : Cx} {G : Gam} {g : Nat → V} {W : WX} {pos : Pos} {T : Tmp} {H H' : Hp} {ρ : Env} {σ : L2.St}
theorem startC_len : ∀ (j : Nat) (cs : List Cell), (startC j cs).length = cs.length
  | _, [] => rfl
  | j, .c true _ _ :: r => by simp [startC, startC_len (j + 1) r]
  | j, .c false _ _ :: r => by simp [startC, startC_len (j + 1) r]
  | j, .emp :: r => by simp [startC, startC_len (j + 1) r]
theorem startC_un : ∀ (j : Nat) (cs : List Cell), (startC j cs).map un = cs.map un
  | _, [] => rfl
  | j, .c true _ _ :: r => by simp [startC, startC_un (j + 1) r, un]
  | j, .c false _ _ :: r => by simp [startC, startC_un (j + 1) r, un]
  | j, .emp :: r => by simp [startC, startC_un (j + 1) r, un]
theorem unT_zip (cs : List Cell) (vs : L2.St) : unT (cs.zip vs) = (cs.map un).zip vs := by
  induction cs generalizing vs with
  | nil => rfl
  | cons c cs ih => cases vs with
    | nil => rfl
    | cons v vs => simp only [List.zip_cons_cons, List.map_cons, unT] at ih ⊢; rw [ih]
theorem startC_tag : ∀ (j : Nat) (cs : List Cell) (vs : List V) (g : Nat → V), (∀ i v, vs[i]? = some v → g (j + i) = v) → Tags g ((startC j cs).zip (vs.map some))
  | _, [], _, _, _ => fun o b d v h => by simp [startC] at h
  | j, c :: r, [], g, _ => fun o b d v h => by simp at h
  | j, c :: r, v0 :: vs, g, hg => fun o b d v h => by
    have ih := startC_tag (j + 1) r vs g fun i v e => by rw [show j + 1 + i = j + (i + 1) by omega]; exact hg (i + 1) v (by simpa using e)
    cases c with
    | emp =>
      simp only [startC, List.map_cons, List.zip_cons_cons, List.mem_cons] at h
      rcases h with h | h
      · cases h
      · exact ih o b d v h
    | c o' b' d' =>
      cases o' with
      | false =>
        simp only [startC, List.map_cons, List.zip_cons_cons, List.mem_cons] at h
        rcases h with h | h
        · cases h; exact .none
        · exact ih o b d v h
      | true =>
        simp only [startC, List.map_cons, List.zip_cons_cons, List.mem_cons] at h
        rcases h with h | h
        · cases h
          intro k hk
          cases hk
          exact (hg 0 v0 rfl).symm
        · exact ih o b d v h
theorem zip_emps (n : Nat) (σ : L2.St) : owns ((List.replicate n Cell.emp).zip σ) = [] := by
  induction n generalizing σ with
  | zero => rfl
  | succ n ih => cases σ with
    | nil => rfl
    | cons v σ => rw [List.replicate_succ, List.zip_cons_cons, owns_cons]; exact ih σ
/-- the state in which a def's body begins -/
theorem start_rel {cs : List Cell} {vs : List V} {ns : Nat} (hl : cs.length = vs.length) (r : RelU G (cs.zip (vs.map some) ++ T) H) :
    Rel G (fun j => vs.getD j .non) (startC 0 cs ++ List.replicate (ns - vs.length) .emp) (vs.map some ++ List.replicate (ns - vs.length) none) (unT T) H := by
  refine ⟨by simp [startC_len, hl], ?_⟩
  have hz : (startC 0 cs ++ List.replicate (ns - vs.length) Cell.emp).zip (vs.map some ++ List.replicate (ns - vs.length) none) = (startC 0 cs).zip (vs.map some) ++ (List.replicate (ns - vs.length) Cell.emp).zip (List.replicate (ns - vs.length) none) :=
    List.zip_append (by simp [startC_len, hl])
  rw [hz]
  have r1 : RelL G (fun j => vs.getD j .non) ((startC 0 cs).zip (vs.map some) ++ unT T) H := by
    refine RelU.tag (r.re ?_) ?_
    · rw [unT_append, unT_append, unT_zip, unT_zip, startC_un]
      unfold unT
      rw [List.map_map]
      congr 1
      apply List.map_congr_left
      intro p _
      simp [un_un]
    · intro o b d v h
      rcases List.mem_append.mp h with h | h
      · exact startC_tag 0 cs vs _ (fun i v e => by simp [List.getD_eq_getElem?_getD, e]) o b d v h
      · obtain ⟨p, _, e⟩ := List.mem_map.mp h
        obtain ⟨c, v'⟩ := p
        cases c with
        | emp => cases e
        | c _ _ _ => cases e; exact .none
  refine r1.sub (fun p hp => ?_) ?_
  · rcases List.mem_append.mp hp with hp | hp
    · rcases List.mem_append.mp hp with hp | hp
      · exact .inl (List.mem_append_left _ hp)
      · refine .inr ?_
        have := List.of_mem_zip hp
        exact (List.mem_replicate.mp this.1).2
    · exact .inl (List.mem_append_right _ hp)
  · have nd := r1.nd
    rw [owns_append] at nd ⊢
    rw [owns_append, zip_emps, List.append_nil]
    exact nd
theorem endC_len : ∀ {j : Nat} {cs cs' : List Cell}, endC ρ j cs = some cs' → cs'.length = cs.length
  | _, [], _, e => by cases e; rfl
  | j, .c true _ _ :: r, cs', e => by
    unfold endC at e
    split at e
    · split at e
      · split at e
        · rename_i h; cases e; simp [endC_len h]
        · cases e
      · cases e
    · cases e
  | j, .c false _ _ :: r, cs', e => by
    unfold endC at e
    split at e
    · rename_i h; cases e; simp [endC_len h]
    · cases e
  | j, .emp :: r, cs', e => by
    unfold endC at e
    split at e
    · rename_i h; cases e; simp [endC_len h]
    · cases e
/-- what the end's cells are: the cells of the parameters that were lent -/
theorem endC_at : ∀ {j : Nat} {cs cs' : List Cell} {i : Nat} {c : Cell}, endC ρ j cs = some cs' → cs'[i]? = some c → c = .emp ∨ ∃ o d, c = .c o none d ∧ ρ[j + i]? = some (.c o (some (j + i)) d)
  | _, [], _, i, c, e, h => by cases e; cases h
  | j, .c true _ _ :: r, cs', i, c, e, h => by
    unfold endC at e
    split at e
    · rename_i o j' d q
      split at e
      · rename_i hj
        subst hj
        split at e
        · rename_i cs2 h2
          cases e
          cases i with
          | zero => cases h; exact .inr ⟨o, d, rfl, q⟩
          | succ i => rw [show j' + (i + 1) = j' + 1 + i by omega]; exact endC_at h2 h
        · cases e
      · cases e
    · cases e
  | j, .c false _ _ :: r, cs', i, c, e, h => by
    unfold endC at e
    split at e
    · rename_i cs2 h2
      cases e
      cases i with
      | zero => cases h; exact .inl rfl
      | succ i => rw [show j + (i + 1) = j + 1 + i by omega]; exact endC_at h2 h
    · cases e
  | j, .emp :: r, cs', i, c, e, h => by
    unfold endC at e
    split at e
    · rename_i cs2 h2
      cases e
      cases i with
      | zero => cases h; exact .inl rfl
      | succ i => rw [show j + (i + 1) = j + 1 + i by omega]; exact endC_at h2 h
    · cases e
theorem owns_sub : ∀ {A B : Tmp}, (∀ (i : Nat) (p : Cell × Option V), A[i]? = some p → ownA p = none ∨ ∃ q, B[i]? = some q ∧ ownA p = ownA q) → (owns A).Sublist (owns B)
  | [], B, _ => List.nil_sublist _
  | p :: A, [], h => by
    have ih := owns_sub (A := A) (B := []) fun i p e1 => by
      rcases h (i + 1) p (by simpa using e1) with z | ⟨q, z, _⟩
      · exact .inl z
      · simp at z
    rw [owns_cons]
    rcases h 0 p rfl with z | ⟨q, z, _⟩
    · rw [z]; exact ih
    · simp at z
  | p :: A, q :: B, h => by
    have ih := owns_sub (A := A) (B := B) fun i p e1 => by
      have := h (i + 1) p (by simpa using e1)
      simpa using this
    rw [owns_cons, owns_cons]
    rcases h 0 p rfl with z | ⟨q', z1, z⟩
    · rw [z]
      dsimp only
      cases ownA q with
      | none => exact ih
      | some a => exact ih.trans (List.sublist_cons_self _ _)
    · cases z1
      rw [z]
      cases ownA q with
      | none => exact ih
      | some a => exact List.Sublist.cons_cons _ ih
theorem end_rel {cs cs' : List Cell} {vs : List V} (hg : ∀ i v, vs[i]? = some v → g i = v) (hl : cs.length = vs.length) (r : Rel G g ρ σ T H) (e : endC ρ 0 cs = some cs') : RelU G (cs'.zip (vs.map some) ++ T) H := by
  have hl' : cs'.length = vs.length := (endC_len e).trans hl
  have at_ : ∀ (i : Nat) (c : Cell) (v : V), cs'[i]? = some c → vs[i]? = some v → c = .emp ∨ ∃ o d, c = .c o none d ∧ (Cell.c o (some i) d, some v) ∈ ρ.zip σ ∧ ρ[i]? = some (.c o (some i) d) ∧ σ[i]? = some (some v) := fun i c v h1 h2 => by
    rcases endC_at e h1 with z | ⟨o, d, z, q⟩
    · exact .inl z
    · rw [Nat.zero_add] at q
      obtain ⟨v', ev, hm⟩ := r.val_at q
      have tg := r.2.tags _ _ _ _ hm i rfl
      rw [hg i v h2] at tg
      subst tg
      exact .inr ⟨o, d, z, zip_mem q ev, q, ev⟩
  refine RelU.re (L := (cs'.zip (vs.map some)) ++ unT T) ?_ ?_
  · intro g0
    have r0 := r.2.u g0
    rw [unT_append] at r0
    refine r0.sub (fun p hp => ?_) ?_
    · simp only [unT_append] at hp ⊢
      rcases List.mem_append.mp hp with hp | hp
      · obtain ⟨q, hq, rfl⟩ := List.mem_map.mp hp
        obtain ⟨i, hi⟩ := List.getElem?_of_mem hq
        obtain ⟨c, s⟩ := q
        have hz := List.getElem?_zip_eq_some.mp hi
        have hv : ∃ v, vs[i]? = some v ∧ s = some v := by
          have := hz.2
          rw [List.getElem?_map] at this
          cases q : vs[i]? with
          | none => rw [q] at this; cases this
          | some v => rw [q] at this; cases this; exact ⟨v, rfl, rfl⟩
        obtain ⟨v, hv, rfl⟩ := hv
        rcases at_ i c v hz.1 hv with z | ⟨o, d, z, hm, _⟩
        · subst z; exact .inr rfl
        · subst z
          exact .inl (List.mem_append_left _ (List.mem_map.mpr ⟨_, hm, rfl⟩))
      · obtain ⟨q, hq, rfl⟩ := List.mem_map.mp hp
        obtain ⟨q2, hq2, rfl⟩ := List.mem_map.mp hq
        refine .inl (List.mem_append_right _ (List.mem_map.mpr ⟨q2, hq2, ?_⟩))
        simp [un_un]
    · have nd := r0.nd
      rw [← unT_append, owns_unT, owns_append] at nd
      rw [owns_unT, owns_append, owns_unT]
      refine List.Nodup.sublist (List.Sublist.append_right (owns_sub fun i p h1 => ?_) _) nd
      · obtain ⟨c, s⟩ := p
        have z1 := List.getElem?_zip_eq_some.mp h1
        have hv : ∃ v, vs[i]? = some v ∧ s = some v := by
          have := z1.2
          rw [List.getElem?_map] at this
          cases q : vs[i]? with
          | none => rw [q] at this; cases this
          | some v => rw [q] at this; cases this; exact ⟨v, rfl, rfl⟩
        obtain ⟨v, hv, rfl⟩ := hv
        rcases at_ i c v z1.1 hv with z | ⟨o, d, z, hm, e1, e2⟩
        · subst z; exact .inl rfl
        · subst z
          right
          refine ⟨(Cell.c o (some i) d, some v), List.getElem?_zip_eq_some.mpr ⟨e1, e2⟩, ?_⟩
          cases o with
          | false => rfl
          | true => cases v <;> rfl
  · rw [unT_append, unT_append]
    congr 1
    unfold unT
    rw [List.map_map]
    apply List.map_congr_left
    intro p _
    simp [un_un]
end

/-! ### arguments -/
section
variable {X : Cx} {G : Gam} {g : Nat → V} {W : WX} {pos : Pos} {T : Tmp} {H H' : Hp} {ρ : Env} {σ : L2.St}
theorem Rel.u (r : Rel G g ρ σ T H) : RelU G (ρ.zip σ ++ T) H := r.2.u
/-- slot i's cell is empty now, its pair stands apart -/
theorem zip_take {i : Nat} {c : Cell} {s : Option V} (h1 : ρ[i]? = some c) (h2 : σ[i]? = some s) : ∃ L, (ρ.zip σ).Perm ((c, s) :: L) ∧ ∀ c', ((ρ.set i c').zip σ).Perm ((c', s) :: L) := by
  obtain ⟨L, p1, _⟩ := zip_set (c' := c) (s' := s) h1 h2
  refine ⟨L, p1, fun c' => ?_⟩
  obtain ⟨L2, q1, q2⟩ := zip_set (c' := c') (s' := s) h1 h2
  have hL : L.Perm L2 := (List.perm_cons _).mp (p1.symm.trans q1)
  rw [set_self h2] at q2
  exact q2.trans (hL.symm.cons _)
/-- the arguments are taken; T0: what stands apart already -/
theorem takeA_rel : ∀ {os : List Opd} {cs : List (Option Cell)} {vs : List V} {M : Tmp} {ρ ρ' : Env} {as : List Cell} {T0 : Tmp}, Argd σ os cs vs M → takeA os cs ρ = some (as, ρ') → ρ.length = σ.length → RelU G (ρ.zip σ ++ (M ++ T0)) H →
    as.length = vs.length ∧ ρ'.length = σ.length ∧ RelU G (as.zip (vs.map some) ++ (ρ'.zip σ ++ T0)) H
  | _, _, _, _, ρ, ρ', as, T0, .nil, e, hl, r => by
    unfold takeA at e
    cases e
    exact ⟨rfl, hl, r⟩
  | _, _, _, _, ρ, ρ', as, T0, .nm (i := i) (v := v) (os := os) (cs := cs) (vs := vs) (M := M) ev a, e, hl, r => by
    unfold takeA at e
    cases q : ρ[i]? with
    | none => rw [q] at e; cases e
    | some c =>
      rw [q] at e
      cases c with
      | emp => cases e
      | c o b d =>
        cases o with
        | true =>
          cases q2 : takeA os cs (ρ.set i .emp) with
          | none => rw [q2] at e; cases e
          | some p =>
            obtain ⟨as2, ρ2⟩ := p
            rw [q2] at e
            cases e
            obtain ⟨L, p1, p2⟩ := zip_take q ev
            have r2 : RelU G ((ρ.set i .emp).zip σ ++ (M ++ ((ow d, some v) :: T0))) H := by
              have r3 : RelU G ((Cell.c true b d, some v) :: (L ++ (M ++ T0))) H := r.perm (p1.append_right _)
              have r4 : RelU G ((Cell.emp, some v) :: ((ow d, some v) :: (L ++ (M ++ T0)))) H := fun g => (r3 g).pushE
              refine r4.perm ?_
              refine List.Perm.trans ?_ ((p2 .emp).append_right _).symm
              refine List.Perm.cons _ ?_
              refine List.Perm.trans ?_ (List.Perm.append_left L (mid_perm _ M T0).symm)
              exact (mid_perm _ L (M ++ T0)).symm
            obtain ⟨h1, h2, h3⟩ := takeA_rel a q2 (by simpa using hl) r2
            refine ⟨by simp [h1], h2, ?_⟩
            refine h3.perm ?_
            rw [List.map_cons, List.zip_cons_cons, List.cons_append]
            refine List.Perm.trans ?_ (mid_perm _ (as2.zip (vs.map some)) _)
            exact List.Perm.append_left _ (mid_perm _ _ _)
        | false =>
          cases q2 : takeA os cs ρ with
          | none => rw [q2] at e; cases e
          | some p =>
            obtain ⟨as2, ρ2⟩ := p
            rw [q2] at e
            cases e
            have r2 : RelU G (ρ.zip σ ++ (M ++ ((vl d, some v) :: T0))) H := by
              obtain ⟨L, p1, _⟩ := zip_take q ev
              have r3 : RelU G ((Cell.c false b d, some v) :: (L ++ (M ++ T0))) H := r.perm (p1.append_right _)
              have r4 : RelU G ((vl d, some v) :: ((Cell.c false b d, some v) :: (L ++ (M ++ T0)))) H := fun g => by
                have k := (r3 g).rep
                have e2 : owns (unT ((Cell.c false b d, some v) :: (L ++ (M ++ T0)))) = owns (unT (L ++ (M ++ T0))) := by
                  rw [owns_unT, owns_unT, owns_cons]; rfl
                refine (r3 g).push ?_
                rw [e2]
                exact k
              refine r4.perm ?_
              refine List.Perm.trans (List.Perm.cons _ (p1.append_right _).symm) ?_
              refine List.Perm.trans (mid_perm _ (ρ.zip σ) (M ++ T0)).symm ?_
              exact List.Perm.append_left _ (mid_perm _ M T0).symm
            obtain ⟨h1, h2, h3⟩ := takeA_rel a q2 hl r2
            refine ⟨by simp [h1], h2, ?_⟩
            refine h3.perm ?_
            rw [List.map_cons, List.zip_cons_cons, List.cons_append]
            refine List.Perm.trans ?_ (mid_perm _ (as2.zip (vs.map some)) _)
            exact List.Perm.append_left _ (mid_perm _ _ _)
  | _, _, _, _, ρ, ρ', as, T0, .ex (c := c) (v := v) (os := os) (cs := cs) (vs := vs) (M := M) a, e, hl, r => by
    cases c with
    | emp => unfold takeA at e; cases e
    | c o b d =>
      unfold takeA at e
      cases q2 : takeA os cs ρ with
      | none => rw [q2] at e; cases e
      | some p =>
        obtain ⟨as2, ρ2⟩ := p
        rw [q2] at e
        cases e
        have r2 : RelU G (ρ.zip σ ++ (M ++ ((Cell.c o none d, some v) :: T0))) H := by
          rw [List.append_assoc] at r
          refine r.re ?_
          simp [unT, un]
        obtain ⟨h1, h2, h3⟩ := takeA_rel a q2 hl r2
        refine ⟨by simp [h1], h2, ?_⟩
        refine h3.perm ?_
        rw [List.map_cons, List.zip_cons_cons, List.cons_append]
        refine List.Perm.trans ?_ (mid_perm _ (as2.zip (vs.map some)) _)
        exact List.Perm.append_left _ (mid_perm _ _ _)
theorem giveB_nil {os : List Opd} {ρ0 ρ : Env} : giveB ρ0 os [] ρ = ρ := by
  unfold giveB
  cases os with
  | nil => rfl
  | cons o os => cases o <;> rfl
theorem giveB_len {ρ0 : Env} : ∀ {os : List Opd} {as : List Cell} {ρ : Env}, (giveB ρ0 os as ρ).length = ρ.length
  | [], as, ρ => rfl
  | .nm i :: os, [], ρ => rfl
  | .ex _ :: os, [], ρ => rfl
  | .nm i :: os, c :: cs, ρ => by
    unfold giveB
    split
    · rw [giveB_len, List.length_set]
    · exact giveB_len
  | .ex _ :: os, c :: cs, ρ => by unfold giveB; exact giveB_len
/-- what was lent comes back -/
theorem giveB_rel {ρ0 : Env} (htag : Tags g (ρ0.zip σ ++ T)) : ∀ {os : List Opd} {cs : List (Option Cell)} {vs : List V} {M : Tmp} {ρ : Env} {as : List Cell}, Argd σ os cs vs M → as.length = vs.length → ρ.length = σ.length → Tags g (ρ.zip σ) → RelU G (as.zip (vs.map some) ++ (ρ.zip σ ++ T)) H →
    RelU G ((giveB ρ0 os as ρ).zip σ ++ T) H ∧ Tags g ((giveB ρ0 os as ρ).zip σ)
  | _, _, _, _, ρ, as, .nil, _, hl, ht, r => by
    have : as.zip (([] : List V).map some) = [] := by simp
    rw [this] at r
    exact ⟨r, ht⟩
  | _, _, _, _, ρ, [], .nm ev a, h, hl, ht, r => by simp at h
  | _, _, _, _, ρ, [], .ex a, h, hl, ht, r => by simp at h
  | _, _, _, _, ρ, c :: as, .nm (i := i) (v := v) (os := os) (cs := cs) (vs := vs) (M := M) ev a, h, hl, ht, r => by
    rw [List.map_cons, List.zip_cons_cons, List.cons_append] at r
    have h' : as.length = vs.length := by simpa using h
    unfold giveB
    split
    · rename_i b d0 o b2 d q
      have hi : i < ρ.length := by
        have := (List.getElem?_eq_some_iff.mp ev).1
        omega
      obtain ⟨L, p1, p2⟩ := zip_take (List.getElem?_eq_getElem hi) ev
      refine giveB_rel htag a h' (by simpa using hl) ?_ ?_
      · intro o' b' d' v' hm
        have hm2 := (p2 (.c o b d)).mem_iff.mp hm
        rcases List.mem_cons.mp hm2 with z | z
        · cases z
          exact htag _ _ _ _ (List.mem_append_left _ (zip_mem q ev))
        · exact ht _ _ _ _ (p1.mem_iff.mpr (List.mem_cons_of_mem _ z))
      · have r2 : RelU G ((Cell.c o b2 d, some v) :: ((ρ[i], some v) :: (as.zip (vs.map some) ++ (L ++ T)))) H := by
          refine r.perm (List.Perm.cons _ ?_)
          refine List.Perm.trans (List.Perm.append_left _ (p1.append_right T)) ?_
          exact mid_perm _ _ _
        have r3 : RelU G ((Cell.c o b d, some v) :: (as.zip (vs.map some) ++ (L ++ T))) H := by
          have r4 : RelU G ((Cell.c o b2 d, some v) :: (as.zip (vs.map some) ++ (L ++ T))) H := (r2.perm (List.Perm.swap ..)).tail
          exact r4.re (by simp [unT, un])
        refine r3.perm ?_
        refine List.Perm.trans (mid_perm _ _ _).symm ?_
        exact List.Perm.append_left _ ((p2 (.c o b d)).append_right T).symm
    · exact giveB_rel htag a h' hl ht r.tail
  | _, _, _, _, ρ, c :: as, .ex (os := os) (cs := cs) (vs := vs) (M := M) a, h, hl, ht, r => by
    rw [List.map_cons, List.zip_cons_cons, List.cons_append] at r
    unfold giveB
    exact giveB_rel htag a (by simpa using h) hl ht r.tail
/-- the callee's part of the tags: lent slots are empty -/
theorem takeA_tags : ∀ {os : List Opd} {cs : List (Option Cell)} {ρ ρ' : Env} {as : List Cell}, takeA os cs ρ = some (as, ρ') → ρ.length = σ.length → Tags g (ρ.zip σ) → Tags g (ρ'.zip σ)
  | [], [], ρ, ρ', as, e, hl, h => by unfold takeA at e; cases e; exact h
  | .nm i :: os, none :: cs, ρ, ρ', as, e, hl, h => by
    unfold takeA at e
    cases q : ρ[i]? with
    | none => rw [q] at e; cases e
    | some c =>
      rw [q] at e
      cases c with
      | emp => cases e
      | c o b d =>
        cases o with
        | true =>
          cases q2 : takeA os cs (ρ.set i .emp) with
          | none => rw [q2] at e; cases e
          | some p =>
            rw [q2] at e
            cases e
            refine takeA_tags q2 (by simpa using hl) fun o' b' d' v' hm => ?_
            have hi : i < σ.length := by
              have := (List.getElem?_eq_some_iff.mp q).1
              omega
            obtain ⟨L, p1, p2⟩ := zip_take q (List.getElem?_eq_getElem hi)
            rcases List.mem_cons.mp ((p2 .emp).mem_iff.mp hm) with z | z
            · cases z
            · exact h _ _ _ _ (p1.mem_iff.mpr (List.mem_cons_of_mem _ z))
        | false =>
          cases q2 : takeA os cs ρ with
          | none => rw [q2] at e; cases e
          | some p => rw [q2] at e; cases e; exact takeA_tags q2 hl h
  | .ex _ :: os, some (.c o b d) :: cs, ρ, ρ', as, e, hl, h => by
    unfold takeA at e
    cases q2 : takeA os cs ρ with
    | none => rw [q2] at e; cases e
    | some p => rw [q2] at e; cases e; exact takeA_tags q2 hl h
  | [], _ :: _, ρ, ρ', as, e, hl, h => by unfold takeA at e; cases e
  | .nm i :: os, [], ρ, ρ', as, e, hl, h => by unfold takeA at e; cases e
  | .nm i :: os, some c :: cs, ρ, ρ', as, e, hl, h => by unfold takeA at e; cases e
  | .ex _ :: os, [], ρ, ρ', as, e, hl, h => by unfold takeA at e; cases e
  | .ex _ :: os, none :: cs, ρ, ρ', as, e, hl, h => by unfold takeA at e; cases e
  | .ex _ :: os, some .emp :: cs, ρ, ρ', as, e, hl, h => by unfold takeA at e; cases e
/-- f(..): from the operands to the promise -/
theorem call_args {F : Fn} {os : List Opd} {Q : VK} (h : tE G W (eCall F os) σ H Q) : tOs G W os σ H (fun vs H1 => spF G F vs H1 Q (WE W σ)) := by
  obtain ⟨g, ρ, T, r, h⟩ := h
  refine tOs_run (T := T) os ρ [] H _ r ?_
  unfold eCall at h
  cases e : evO os ρ with
  | stk => rw [e] at h; exact h
  | exc n ρ' => rw [e] at h; exact h
  | ok cs ρ1 =>
    rw [e] at h
    intro vs H1 M r1 a
    simp only at h
    cases q : takeA os cs ρ1 with
    | none => rw [q] at h; exact h.elim
    | some p =>
      obtain ⟨as, ρ2⟩ := p
      rw [q] at h
      simp only at h
      have r1' : Rel G g ρ1 σ (M ++ T) H1 := r1
      obtain ⟨l1, l2, r2⟩ := takeA_rel a q r1'.1 r1'.u
      have tg1 : Tags g (ρ1.zip σ ++ T) := fun o b d v hm => by
        refine r1'.2.tags o b d v ?_
        rcases List.mem_append.mp hm with hm | hm
        · exact List.mem_append_left _ hm
        · exact List.mem_append_right _ (List.mem_append_right _ hm)
      have tg2 : Tags g (ρ2.zip σ) := takeA_tags q r1'.1 fun o b d v hm => tg1 o b d v (List.mem_append_left _ hm)
      refine ⟨as, ρ2.zip σ ++ T, l1, r2, ?_⟩
      cases e2 : F as with
      | stk => rw [e2] at h; exact h
      | ok c as' =>
        rw [e2] at h
        intro v H' hl' rr
        refine h v H' ?_
        have r5 : RelU G (as'.zip (vs.map some) ++ (ρ2.zip σ ++ ((c, some v) :: T))) H' := by
          refine rr.perm ?_
          refine List.Perm.trans ?_ (List.Perm.append_left _ (mid_perm _ _ _).symm)
          exact (mid_perm _ _ _).symm
        have tgc : Tags g (ρ1.zip σ ++ ((un c, some v) :: T)) := fun o b d v' hm => by
          rcases List.mem_append.mp hm with hm | hm
          · exact tg1 o b d v' (List.mem_append_left _ hm)
          · rcases List.mem_cons.mp hm with z | z
            · cases c with
              | emp => cases z
              | c _ _ _ => cases z; exact .none
            · exact tg1 o b d v' (List.mem_append_right _ z)
        have r6 : RelU G (as'.zip (vs.map some) ++ (ρ2.zip σ ++ ((un c, some v) :: T))) H' := r5.re (by simp [unT, un_un])
        obtain ⟨r7, tg3⟩ := giveB_rel tgc a hl' l2 tg2 r6
        refine ⟨giveB_len.trans l2, RelU.tag r7 fun o b d v' hm => ?_⟩
        rcases List.mem_append.mp hm with hm | hm
        · exact tg3 o b d v' hm
        · exact tgc o b d v' (List.mem_append_right _ hm)
      | exc n as' =>
        rw [e2] at h
        intro H' hl' rr
        refine h H' ?_
        obtain ⟨r7, tg3⟩ := giveB_rel tg1 a hl' l2 tg2 rr
        refine ⟨giveB_len.trans l2, RelU.tag r7 fun o b d v' hm => ?_⟩
        rcases List.mem_append.mp hm with hm | hm
        · exact tg3 o b d v' hm
        · exact tg1 _ _ _ _ (List.mem_append_right _ hm)
end
end Sm

set_option Elab.async false
set_option linter.all false
set_option maxRecDepth 100000
set_option maxHeartbeats 1000000
/-! Sm, part I: defs, raise, try, defs that run while an exception is handled. -/
namespace Sm
open PySem PySem.Spec PyProof.Rows L2

abbrev WF (E : XK) : WX := fun cls d _ H => E cls d H
section
variable {P : Program} {w : World} {K : PySem.W.Frag} {mg : Str → Option Value} {base : Heap} {G : Gam}
theorem spF_len {np ns : Nat} {body : DS} {vs : List V} {H : Hp} {Q : VK} {E : XK} (h : spF G (mkF np ns body) vs H Q E) : vs.length = np := by
  obtain ⟨cs, T, hl, _, h⟩ := h
  unfold mkF at h
  by_cases hk : cs.length = np
  · omega
  · rw [if_neg hk] at h
    exact h.elim
/-- from the promise to the body -/
theorem body_start {N : List Str} {np : Nat} {body : DS} {vs : List V} {H : Hp} {Q : VK} {E : XK} (h : spF G (mkF np N.length body) vs H Q E) :
    tS G (WF E) body { nx := fun _ H' => Q .non H', rt := Q } (L2.start N vs) H := by
  have hv := spF_len h
  obtain ⟨cs, T, hl, r, h⟩ := h
  unfold mkF at h
  rw [if_pos (hl.trans hv)] at h
  have r0 := start_rel (ns := N.length) hl r
  rw [← hv] at h
  refine ⟨_, _, _, r0, ?_⟩
  have hg : ∀ (i : Nat) (v : V), vs[i]? = some v → (fun j => vs.getD j V.non) i = v := fun i v e => by simp [List.getD_eq_getElem?_getD, e]
  have fin : ∀ {ρ : Env} {σ' : L2.St} {H' : Hp} {c : Cell} {v : V} {cs' : List Cell}, Rel G (fun j => vs.getD j V.non) ρ σ' ((c, some v) :: unT T) H' → endC ρ 0 cs = some cs' →
      cs'.length = vs.length ∧ RelU G ((c, some v) :: (cs'.zip (vs.map some) ++ T)) H' := fun {ρ σ' H' c v cs'} r' q => by
    have r2 := end_rel hg hl r' q
    refine ⟨(endC_len q).trans hl, ?_⟩
    refine RelU.perm (RelU.re (M := (cs'.zip (vs.map some) ++ ((c, some v) :: T))) r2 ?_) (mid_perm _ _ _)
    unfold unT
    simp only [List.map_append, List.map_cons, List.map_map]
    congr 2
    apply List.map_congr_left
    intro p _
    simp [un_un]
  cases e : body (startC 0 cs ++ List.replicate (N.length - vs.length) Cell.emp) with
  | stk => rw [e] at h; exact h.elim
  | bk ρ => rw [e] at h; exact h.elim
  | ct ρ => rw [e] at h; exact h.elim
  | nx ρ =>
    rw [e] at h
    intro σ' H' r'
    cases q : endC ρ 0 cs with
    | none => simp only [q] at h
    | some cs' =>
      simp only [q] at h
      obtain ⟨k1, k2⟩ := fin (r'.push .non) q
      exact h _ H' k1 k2
  | rt c ρ =>
    rw [e] at h
    intro v σ' H' r'
    cases q : endC ρ 0 cs with
    | none => simp only [q] at h
    | some cs' =>
      simp only [q] at h
      obtain ⟨k1, k2⟩ := fin r' q
      exact h _ H' k1 k2
  | exc n ρ =>
    rw [e] at h
    intro σ' H' r'
    cases q : endC ρ 0 cs with
    | none => simp only [q] at h
    | some cs' =>
      simp only [q] at h
      obtain ⟨k1, k2⟩ := fin (r'.push .non) q
      exact h H' k1 k2.tail
/-- a def by its body -/
theorem okF {x qual : Str} {st : Stmt} {f : Addr} {fd : FuncData} {N ps : List Str} {k : Nat} {body : DS} (F : L2.Fun K x qual st f fd) (S : FnScope N ps (defScope st))
    (hb : ∀ (cdv : Value) (A : Around) (outer : List PySem.Env) (s : Shared) (H : Hp) (E : XK), Room k (A.deeper (envOfC qual (defScope st) s.heap.objs.size f cdv)) →
      PSs (cxOf (L2N.CX P w) P w K mg base N qual (defScope st) f cdv A outer s H E) (defBody st) (tS G (WF E) body)) : FnOk P w K mg base (L2N.CX P w) (k + 1) f fd ps (spF G (mkF ps.length N.length body)) := by
  obtain ⟨oc, od, kV, doc, pm, an, cdv, ct, osl, rfl, lk, hcd⟩ := F.ex
  exact fn_of lk hcd S (fun vs H Q E h => spF_len h) fun A outer s H vs Q E hr hsp => ⟨_, hb cdv A outer s H E hr, body_start hsp⟩
end
section
variable {X : Cx} {G : Gam} {g : Nat → V} {W : WX} {pos : Pos} {T : Tmp} {H : Hp} {ρ : Env} {σ : L2.St}
/-- f(e, ..) -/
theorem se_call {k : Nat} {f : Addr} {fd : FuncData} {ps : List Str} {F : Fn} {x : Str} {p : Pos} {e : Expr} {es : List Expr} {os : List Opd} (Ok : FnOk X.prog X.w X.K X.mg X.base (L2N.CX X.prog X.w) k f fd ps (spF G F)) (hr : Room k X.A) (hg : Gl X x) (hm : X.mg x = some (.ref f)) (hk : PySem.W.keepIn X.K (.ref f) = true) (hb : Binds X.K fd ps []) (tk : L2N.Takes X W)
    (ha : PA X (e :: es) (tOs G W os)) (hdb : (x == ("__debug__" : Str)) = false := by decide) (he : starEach (e :: es) X.env = (false, eval e X.env) :: starEach es X.env := by rfl) (hpl : (backTo pos (starEach es X.env)).any (·.1) = false := by rfl) :
    PE X (.Call (.Name x p) (e :: es) [] pos) (tE G W (eCall F os)) :=
  (pe_callS Ok hr hg hm hk hb (fun σ => L2N.passAt tk σ) ha hdb he hpl).weak fun σ H Q h => call_args h
/-! ### raise -/
def sRaise (n : Nat) : DS := fun ρ => .exc n ρ
/-- an error class of the text -/
structure ErrC (X : Cx) (x : Str) (C : Addr) : Prop where
  gC : X.mg x = some (.ref C)
  q : PySem.W.excIn X.K C [.type "ValueError", .type "Exception", .type "BaseException", .type "object"] "ValueError.__new__" = true
  kC : PySem.W.keepIn X.K (.ref C) = true
  r1 : PySem.W.subIn X.K (.ref C) (.type "BaseException") = some true
  r2 : PySem.W.typeIn X.K (.ref C) = some (.type "type")
theorem ss_raise {x m : Str} {j n : Nat} {p p2 cpos : Pos} (hc : X.calm = true) (tk : L2N.Takes X W) (E : ErrC X x (G.cls n)) (hg : Gl X x) (hdb : (x == ("__debug__" : Str)) = false := by decide) :
    PS X (.Raise (some (.Call (.Name x p) [.Constant (.str m) j p2] [] cpos)) none pos) (tS G W (sRaise n)) :=
  (L2N.ps_raise hc tk (L2N.pmk_own PySem.F.excBase_ValueError E.q E.gC E.kC (raises_own E.r1 E.r2) hg hdb)).weak fun D σ H ⟨g, ρ, T, r, h⟩ => h σ H r
end

/-! ### an exception in the values -/
mutual
def D.noexc : D → Bool
  | .exc _ => false
  | .lst xs => D.noexcs xs
  | .frl xs => D.noexcs xs
  | .tup xs => D.noexcs xs
  | .dct kvs => D.noexckv kvs
  | _ => true
def D.noexcs : List D → Bool
  | [] => true
  | x :: xs => D.noexc x && D.noexcs xs
def D.noexckv : List (D × D) → Bool
  | [] => true
  | (_, y) :: r => D.noexc y && D.noexckv r
end
abbrev Gam.heat (G : Gam) (p : Option (Addr × Nat)) : Gam := { G with hot := p }
section
variable {G : Gam} {g : Nat → V} {A : Addr → Prop} {H : Hp} {p : Option (Addr × Nat)}
theorem noexckv_map : ∀ (kvs : List (D × D)), D.noexcs (kvs.map (·.2)) = D.noexckv kvs
  | [] => by simp only [List.map_nil, D.noexcs, D.noexckv]
  | (a, b) :: r => by simp only [List.map_cons, D.noexcs, D.noexckv, noexckv_map r]
mutual
theorem Rep.heat {q : Option (Addr × Nat)} : ∀ {v : V} {d : D}, Rep (G.heat q) A H v d → D.noexc d = true → Rep (G.heat p) A H v d
  | _, _, .non, _ => .non
  | _, _, .bl b, _ => .bl b
  | _, _, .int i, _ => .int i
  | _, _, .str x k, _ => .str x k
  | _, _, .tup q r, n => .tup q (Reps.heat r (by simpa only [D.noexc] using n))
  | _, _, .lst q r, n => .lst q (Reps.heat r (by simpa only [D.noexc] using n))
  | _, _, .frl q r, n => .frl q (Reps.heat r (by simpa only [D.noexc] using n))
  | _, _, .dctK q k r, n => .dctK q k (Reps.heat r (by rw [noexckv_map]; simpa only [D.noexc] using n))
  | _, _, .dctT q k r, n => .dctT q k (Reps.heat r (by rw [noexckv_map]; simpa only [D.noexc] using n))
  | _, _, .exc e, n => by simp [D.noexc] at n
theorem Reps.heat {q : Option (Addr × Nat)} : ∀ {v : List V} {d : List D}, Reps (G.heat q) A H v d → D.noexcs d = true → Reps (G.heat p) A H v d
  | _, _, .nil, _ => .nil
  | _, _, .cons a b, n => by
    simp only [D.noexcs, Bool.and_eq_true] at n
    exact .cons (Rep.heat a n.1) (Reps.heat b n.2)
end
mutual
theorem Rep.cold : ∀ {v : V} {d : D}, Rep (G.heat none) A H v d → D.noexc d = true
  | _, _, .non => rfl
  | _, _, .bl b => rfl
  | _, _, .int i => rfl
  | _, _, .str x k => rfl
  | _, _, .tup q r => by simp only [D.noexc]; exact Reps.cold r
  | _, _, .lst q r => by simp only [D.noexc]; exact Reps.cold r
  | _, _, .frl q r => by simp only [D.noexc]; exact Reps.cold r
  | _, _, .dctK q k r => by simp only [D.noexc]; rw [← noexckv_map]; exact Reps.cold r
  | _, _, .dctT q k r => by simp only [D.noexc]; rw [← noexckv_map]; exact Reps.cold r
  | _, _, .exc e => by cases e
theorem Reps.cold : ∀ {v : List V} {d : List D}, Reps (G.heat none) A H v d → D.noexcs d = true
  | _, _, .nil => rfl
  | _, _, .cons a b => by simp only [D.noexcs, Rep.cold a, Reps.cold b]; rfl
end
def Cell.noexc : Cell → Bool
  | .emp => true
  | .c _ _ d => D.noexc d
theorem Cont.heat {q : Option (Addr × Nat)} {a : Addr} {d : D} (c : Cont (G.heat q) A H a d) (n : D.noexc d = true) : Cont (G.heat p) A H a d := by
  cases d with
  | lst ds => obtain ⟨vs, h1, r⟩ := c; exact ⟨vs, h1, r.heat (by simpa only [D.noexc] using n)⟩
  | dct ds =>
    rcases c with ⟨kvs, h1, k, r⟩ | ⟨kvs, h1, k, r⟩
    · exact .inl ⟨kvs, h1, k, r.heat (by rw [noexckv_map]; simpa only [D.noexc] using n)⟩
    · exact .inr ⟨kvs, h1, k, r.heat (by rw [noexckv_map]; simpa only [D.noexc] using n)⟩
  | _ => exact c.elim
theorem Cont.cold {a : Addr} {d : D} (c : Cont (G.heat none) A H a d) : D.noexc d = true := by
  cases d with
  | lst ds => obtain ⟨vs, h1, r⟩ := c; simp only [D.noexc]; exact r.cold
  | dct ds =>
    rcases c with ⟨kvs, h1, k, r⟩ | ⟨kvs, h1, k, r⟩
    · simp only [D.noexc]; rw [← noexckv_map]; exact r.cold
    · simp only [D.noexc]; rw [← noexckv_map]; exact r.cold
  | _ => exact c.elim
theorem CellOk.heat {q : Option (Addr × Nat)} {x : Cell × Option V} (c : CellOk (G.heat q) g A H x) (n : Cell.noexc x.1 = true) : CellOk (G.heat p) g A H x := by
  obtain ⟨c', v⟩ := x
  cases c' with
  | emp => trivial
  | c o b d => cases o with
    | false => cases v with
      | none => exact c.elim
      | some v => exact ⟨c.1, c.2.heat n⟩
    | true => cases v with
      | none => exact c.elim
      | some v => cases v with
        | ref a => exact ⟨c.1, c.2.heat n⟩
        | _ => exact c.elim
theorem CellOk.cold {x : Cell × Option V} (c : CellOk (G.heat none) g A H x) : Cell.noexc x.1 = true := by
  obtain ⟨c', v⟩ := x
  cases c' with
  | emp => rfl
  | c o b d => cases o with
    | false => cases v with
      | none => exact c.elim
      | some v => exact c.2.cold
    | true => cases v with
      | none => exact c.elim
      | some v => cases v with
        | ref a => exact c.2.cold
        | _ => exact c.elim
theorem RelL.heat {q : Option (Addr × Nat)} {L : Tmp} (r : RelL (G.heat q) g L H) (n : ∀ x ∈ L, Cell.noexc x.1 = true) : RelL (G.heat p) g L H :=
  ⟨fun x hx => (r.ok x hx).heat (n x hx), r.nd, r.tab⟩
theorem RelL.cold {L : Tmp} (r : RelL (G.heat none) g L H) : ∀ x ∈ L, Cell.noexc x.1 = true := fun x hx => (r.ok x hx).cold
end

/-! ### try: .. except .. -/
/-- the class e is k's or below it (0: the base of all) -/
def subC (e k : Nat) : Bool := k == 0 || min e 5 == min k 5
/-- what of a slot is kept behind an except suite that returns -/
def keepT : Cell → Cell
  | .c o (some j) d => if D.noexc d then .c o (some j) d else .emp
  | _ => .emp
/-- try: body / except X as n: suite, where the suite returns -/
def sTry (i k : Nat) (body suite : DS) : DS := fun ρ => match body ρ with
  | .exc e ρ1 => if subC e k then match suite (ρ1.set i (vl (.exc e))) with
      | .rt c ρ2 => if Cell.noexc c then .rt c (ρ2.map keepT) else .stk
      | _ => .stk
    else .exc e ρ1
  | r => r
section
variable {X : Cx} {G : Gam} {g : Nat → V} {W : WX} {pos : Pos} {T : Tmp} {H : Hp} {ρ : Env} {σ : L2.St}
theorem _root_.L2.PSs.ex {X : Cx} {sts : List Stmt} {ι : Type} {t : ι → TS} (h : ∀ i, PSs X sts (t i)) : PSs X sts (fun D σ H => ∃ i, t i D σ H) := ⟨fun pins s σ H D I ⟨i, q⟩ => (h i).run pins s σ H D I q⟩
theorem keepT_sub (ρ : Env) (σ : L2.St) : ∀ p ∈ (ρ.map keepT).zip σ, (p ∈ ρ.zip σ ∧ Cell.noexc p.1 = true) ∨ p.1 = .emp := fun p hp => by
  induction ρ generalizing σ with
  | nil => simp at hp
  | cons c ρ ih => cases σ with
    | nil => simp at hp
    | cons s σ =>
      rw [List.map_cons, List.zip_cons_cons, List.mem_cons] at hp
      rcases hp with hp | hp
      · subst hp
        unfold keepT
        split
        · split
          · rename_i h
            exact .inl ⟨by rw [List.zip_cons_cons]; exact List.mem_cons_self, h⟩
          · exact .inr rfl
        · exact .inr rfl
      · rcases ih σ hp with h | h
        · exact .inl ⟨by rw [List.zip_cons_cons]; exact List.mem_cons_of_mem _ h.1, h.2⟩
        · exact .inr h
theorem keepT_owns (ρ : Env) (σ : L2.St) : (owns ((ρ.map keepT).zip σ)).Sublist (owns (ρ.zip σ)) := owns_sub fun i p h => by
  obtain ⟨c, s⟩ := p
  have z := List.getElem?_zip_eq_some.mp h
  have z1 := z.1
  rw [List.getElem?_map] at z1
  cases q : ρ[i]? with
  | none => rw [q] at z1; cases z1
  | some c0 =>
    rw [q] at z1
    have z2 : keepT c0 = c := by simpa using z1
    subst z2
    unfold keepT
    split
    · split
      · rename_i o j d h2
        exact .inr ⟨(Cell.c o (some j) d, s), List.getElem?_zip_eq_some.mpr ⟨q, z.2⟩, rfl⟩
      · exact .inl rfl
    · exact .inl rfl
theorem ss_try {x n : Str} {i k : Nat} {body suite : List Stmt} {b₀ : Stmt} {np pos' : Pos} {db ds : DS} (hs : X.stack = X.env :: X.outer) (hf : X.env.frame = some X.env.locals) (hN : X.N.Nodup) (hi : X.N[i]? = some n) (hln : X.env.kindOf n = some .local)
    (hc : Names X x (.ref (G.cls k))) (tk : L2N.Takes X W) (hk : X.K = G.K) (hex : ∀ e, PySem.W.exmOne G.K (.ref (G.cls e)) (.ref (G.cls k)) = some (subC e k))
    (hb : ∀ (W : WX) (pn : List (Addr × Obj)) (xe : Value → Shared → Prop), L2N.Takes (X.tr pn xe) W → PassesOwn (model X.prog X.w) X.A X.env xe → PSs (X.tr pn xe) body (tS (G.heat none) W db))
    (hsu : ∀ (a : Addr) (oe : Obj) (e : Nat) (pn : List (Addr × Obj)), L2N.Zn (.ref (G.cls e)) none oe → (∃ vs, oe.data = .fields vs) → PSs (X.suite a ((a, oe) :: pn)) (b₀ :: suite) (tS (G.heat (some (a, e))) (fun _ _ _ _ => False) ds)) :
    PS X (.Try body [.ExceptHandler (some (.Name x np)) (some n) (b₀ :: suite) pos'] [] [] pos) (tS (G.heat none) W (sTry i k db ds)) := by
  refine (L2N.ps_try_as (tb := fun W => tS (G.heat none) W db) (ts := fun a cls d D σ H => ∃ q : { e : Nat // cls = .ref (G.cls e) ∧ d = none }, tS (G.heat (some (a, q.1))) (fun _ _ _ _ => False) ds D σ H) hs hf hN hi hln hc tk hb ?_).weak ?_
  · intro a oe cls d pn hz hfi
    refine L2.PSs.ex fun q => ?_
    obtain ⟨e, rfl, rfl⟩ := q
    exact hsu a oe e pn hz hfi
  · intro E σ H ⟨g, ρ, T, r, h⟩
    refine ⟨g, ρ, T, r, ?_⟩
    unfold sTry at h
    cases e : db ρ with
    | nx ρ1 => rw [e] at h; exact h
    | rt c ρ1 => rw [e] at h; exact h
    | bk ρ1 => rw [e] at h; exact h
    | ct ρ1 => rw [e] at h; exact h
    | stk => rw [e] at h; exact h
    | exc m ρ1 =>
      rw [e] at h
      simp only at h
      intro σ' H' r'
      refine ⟨subC m k, by rw [hk]; exact hex m, fun hy a ha => ?_, fun hn => ?_⟩
      · rw [if_pos hy] at h
        refine ⟨⟨m, rfl, rfl⟩, ?_⟩
        have hcold := r'.2.cold
        have r1 : Rel (G.heat (some (a, m))) g ρ1 σ' T H' := ⟨r'.1, r'.2.heat hcold⟩
        have r2 : Rel (G.heat (some (a, m))) g (ρ1.set i (vl (.exc m))) (σ'.set i (some (.ref a))) T H' := (r1.push (.exc rfl)).store
        refine ⟨g, _, T, r2, ?_⟩
        cases e2 : ds (ρ1.set i (vl (.exc m))) with
        | rt c ρ2 =>
          rw [e2] at h
          simp only at h
          intro v σ3 H3 r3
          split at h
          · rename_i hc'
            refine h v σ3 H3 ⟨by rw [List.length_map]; exact r3.1, ?_⟩
            have r4 : RelL (G.heat (some (a, m))) g ((ρ2.map keepT).zip σ3 ++ (c, some v) :: T) H3 := by
              refine r3.2.sub (fun p hp => ?_) ?_
              · rcases List.mem_append.mp hp with hp | hp
                · rcases keepT_sub ρ2 σ3 p hp with z | z
                  · exact .inl (List.mem_append_left _ z.1)
                  · exact .inr z
                · exact .inl (List.mem_append_right _ hp)
              · have nd := r3.2.nd
                rw [owns_append] at nd ⊢
                exact nd.sublist ((keepT_owns ρ2 σ3).append_right _)
            refine r4.heat (q := some (a, m)) fun p hp => ?_
            rcases List.mem_append.mp hp with hp | hp
            · rcases keepT_sub ρ2 σ3 p hp with z | z
              · exact z.2
              · rw [z]; rfl
            · rcases List.mem_cons.mp hp with z | z
              · rw [z]; exact hc'
              · exact hcold p (List.mem_append_right _ z)
          · exact h.elim
        | _ => rw [e2] at h; exact h.elim
      · rw [hn] at h
        exact h σ' H' r'
end

/-! ### a def that runs while an exception is handled -/
structure FnQ (P : Program) (w : World) (K : PySem.W.Frag) (mg : Str → Option Value) (base : Heap) (k : Nat) (f : Addr) (fd : FuncData) (ps : List Str) (sp : (Addr × Obj) → Sp) : Prop where
  len : ∀ p vs H Q E, sp p vs H Q E → vs.length = ps.length
  run : ∀ (A : Around) (outer : List PySem.Env) (s : Shared) (H : Hp) (args : Args) (us : List Value) (vs : List V) (Q : VK) (E : XK) (p : Addr × Obj), L2H.RoomH k A → L2H.Hot1 A p → L2H.PinOk outer H s p → Env0 P w K mg base A outer s H → BindsTo s fd args (ps.zip us) → Vals vs us → sp p vs H Q E →
    codeAny (model P w) A (.call (.ref f) args) (CR (L2N.CX P w) outer P w H s Q E) s
/-- the promise there: the exception's class is told -/
def spH (G : Gam) (F : Fn) : (Addr × Obj) → Sp := fun p vs H Q E => ∃ c, p.2.cls = .ref (G.cls c) ∧ p.2.dict = none ∧ spF (G.heat (some (p.1, c))) F vs H Q E
section
variable {P : Program} {w : World} {K : PySem.W.Frag} {mg : Str → Option Value} {base : Heap} {G : Gam}
theorem okH {x qual : Str} {st : Stmt} {f : Addr} {fd : FuncData} {N ps : List Str} {k : Nat} {body : DS} (F : L2.Fun K x qual st f fd) (S : FnScope N ps (defScope st))
    (hb : ∀ (cdv : Value) (A : Around) (outer : List PySem.Env) (s : Shared) (H : Hp) (E : XK) (p : Addr × Obj) (c : Nat), L2H.Hot1 A p → L2H.RoomH k (A.deeper (envOfC qual (defScope st) s.heap.objs.size f cdv)) → p.2.cls = .ref (G.cls c) → p.2.dict = none →
      PSs (L2H.cxH (L2N.CX P w) P w K mg base N qual (defScope st) f cdv A outer s H E p) (defBody st) (tS (G.heat (some (p.1, c))) (WF E) body)) : FnQ P w K mg base (k + 1) f fd ps (spH G (mkF ps.length N.length body)) := by
  obtain ⟨oc, od, kV, doc, pm, an, cdv, ct, osl, rfl, lk, hcd⟩ := F.ex
  refine ⟨fun p vs H Q E ⟨c, _, _, h⟩ => spF_len h, fun A outer s H args us vs Q E p hr hot hpin e0 hbd r hsp => ?_⟩
  obtain ⟨c, hcl, hdi, hsp⟩ := hsp
  have hl := spF_len hsp
  have KX : K.In s.heap := e0.mod.kin.keeps fun b o e => (e0.bs b o e).1
  have lim : s.heap.NoLimit := e0.mod.nolimit.keeps fun b o e => (e0.bs b o e).1
  have hkind : ∀ y ∈ ps.zip us, (defScope st).names.lookup y.1 = some .local ∨ ((defScope st).names.lookup y.1 = some .cell ∧ ((cellsFrom (s.heap.objs.size + 1) (defScope st).names []).lookup y.1).isSome = true) := fun ⟨n, v⟩ hy => by
    rcases S.par n (List.of_mem_zip hy).1 with q | q
    · exact .inl q
    · exact .inr ⟨q, PySem.W.cellsFrom_some _ _ _ (.inl q)⟩
  refine codeAny_call_function hr.depth (KX _ _ lk) rfl S.co S.gen rfl (PySem.W.codeRec_of KX hcd) (hbd _ _ _ _ ?_)
  refine wpAny_newFunctionEnv_cells S.kind hkind fun env he s1 x => ?_
  subst he
  refine ⟨lim.keeps x.toInCall.keep, codeAny_func ?_⟩
  have ht := hb cdv A outer s H E p c hot (hr.deeper _) hcl hdi
  have I : Inv (L2H.cxH (L2N.CX P w) P w K mg base N qual (defScope st) f cdv A outer s H E p) [] (L2.start N vs) H s1 := L2H.inv_startH S hpin e0 hl r x
  refine wpAny_mono (ht.run [] s1 (L2.start N vs) H _ I (body_start hsp)) (fun fl s' hs => ?_) fun e s' hs => hs
  cases fl with
  | ret u =>
    obtain ⟨v, σ', H', J, rv, q⟩ := hs
    exact ⟨v, H', J.os, J.bare, J.base, J.hok, rv, q⟩
  | next =>
    obtain ⟨σ', H', J, q⟩ := hs
    exact ⟨V.non, H', J.os, J.bare, J.base, J.hok, rfl, q⟩
  | brk =>
    obtain ⟨_, _, _, q⟩ := hs
    exact False.elim q
  | cont =>
    obtain ⟨_, _, _, q⟩ := hs
    exact False.elim q
end
section
variable {X : Cx} {G : Gam} {g : Nat → V} {W : WX} {pos : Pos} {T : Tmp} {H : Hp} {ρ : Env} {σ : L2.St}
/-- f(..) in an except suite, or in a def that runs there -/
theorem se_callH {k : Nat} {f : Addr} {fd : FuncData} {ps : List Str} {F : Fn} {x : Str} {q : Pos} {e : Expr} {es : List Expr} {os : List Opd} {p : Addr × Obj} {c : Nat} (Ok : FnQ X.prog X.w X.K X.mg X.base k f fd ps (spH G F)) (hr : L2H.RoomH k X.A) (hot : L2H.Hot1 X.A p) (hp : p ∈ X.pn)
    (hcl : p.2.cls = .ref (G.cls c)) (hdi : p.2.dict = none) (hg : Gl X x) (hm : X.mg x = some (.ref f)) (hk : PySem.W.keepIn X.K (.ref f) = true) (hb : Binds X.K fd ps []) (tk : L2N.Takes X W)
    (ha : PA X (e :: es) (tOs (G.heat (some (p.1, c))) W os)) (hdb : (x == ("__debug__" : Str)) = false := by decide) (he : starEach (e :: es) X.env = (false, eval e X.env) :: starEach es X.env := by rfl) (hpl : (backTo pos (starEach es X.env)).any (·.1) = false := by rfl) :
    PE X (.Call (.Name x q) (e :: es) [] pos) (tE (G.heat (some (p.1, c))) W (eCall F os)) := by
  refine ⟨fun pins s σ H Q I h => ?_⟩
  have h2 := call_args h
  refine wpAny_Call_Name_kw (ld_glob I hg hm ?_ hdb)
  refine PySem.W.callWith_K (h₀ := X.base) I.ok.mod.kin hk (thn (ha.run pos pins s σ H _ I h2) fun us s1 ⟨vs, H1, I1, r, q⟩ => ⟨I1.kIn, ?_⟩) he hpl
  have q' : spH G F p vs H1 Q (WE W σ) := ⟨c, hcl, hdi, q⟩
  have hl : us.length = ps.length := by rw [← r.length]; exact Ok.len p vs H1 _ _ q'
  have b := hb s1 us I1.kIn (by rw [List.append_nil]; exact hl)
  rw [List.append_nil] at b
  have P1 := I1.pin p (List.mem_append_left _ hp)
  have hpin : L2H.PinOk X.stack H1 s1 p := ⟨P1.1, P1.2.1, fun hm => (List.mem_cons.mp (I1.stkSub p.1 hm)).elim P1.2.2.1 P1.2.2.2.1, P1.2.2.2.2⟩
  refine wpAny_call (codeAny_mono (Ok.run X.A X.stack s1 H1 ⟨us, []⟩ us vs Q (WE W σ) p hr hot hpin I1.env0 b r q') fun r s' hq => ?_)
  cases r with
  | error e => exact L2N.passAt tk σ pins H1 s1 e s' I1 hq
  | ok fl =>
    cases fl with
    | ret u => exact I1.after hq
    | next => exact False.elim hq
    | brk => exact False.elim hq
    | cont => exact False.elim hq
end
/-! ### isinstance of the handled exception -/
def fIsE (k : Nat) : List D → Option Cell
  | [.exc c] => some (vl (.bl (subC c k)))
  | _ => none
section
variable {X : Cx} {G : Gam} {W : WX} {pos : Pos} {o : Opd}
theorem call_isQ {p : Addr × Obj} {D : Addr} (hp : p ∈ X.pn) (C : ExcC X.K D) (hz : Zc (.ref D) none p.2) (hf : ∃ vs, p.2.data = .fields vs) : CallR X (.builtin "isinstance") (rIsE X.K D p.1) := by
  intro pins s σ H xs us Q I r h
  obtain ⟨c, cv, b, rfl, hcv, e, q⟩ := h
  obtain ⟨u1, u2, rfl, rx, rt⟩ := vals2 r
  obtain rfl : u1 = Value.ref p.1 := rx
  obtain rfl := hcv u2 rt
  obtain ⟨hget, _⟩ := I.pin p (List.mem_append_left _ hp)
  obtain ⟨vs, hv⟩ := hf
  have J : PySem.W.InstAt s.heap p.1 p.2 D none := by
    obtain ⟨a, oc, od, oda, osl⟩ := p
    obtain ⟨h1, h2⟩ := hz
    dsimp only at h1 h2 hv
    subst h1 h2 hv
    exact ⟨hget, rfl, rfl, trivial⟩
  exact PySem.W.kia_one (PySem.W.handS_kitx_exc C.hg C.hk C.hs C.hd C.ha C.hn C.ht C.hm) I.kIn J e (fun z => nomatch z) fun tk => ⟨.bl b, H, I.kept (t' := tk) fun _ _ z => z, rfl, q⟩
theorem se_isE {p : Addr × Obj} {c k : Nat} {e tn : Expr} {ep : Pos} (K : X.K = G.K) (hp : p ∈ X.pn) (C : ExcC G.K (G.cls c)) (hz : Zc (.ref (G.cls c)) none p.2) (hf : ∃ vs, p.2.data = .fields vs) (hkit : PySem.W.kitOne G.K (.ref (G.cls c)) (.ref (G.cls k)) = some (subC c k))
    (hg : Gl X "isinstance") (hm : X.mg "isinstance" = none) (ha : PE X e (tO (G.heat (some (p.1, c))) W o)) (ht : PE X tn (tC (.ref (G.cls k))))
    (h1 : starEach [e, tn] X.env = (false, eval e X.env) :: starEach [tn] X.env := by rfl) (h2 : starEach [tn] X.env = (false, eval tn X.env) :: starEach [] X.env := by rfl) (hpl : (backTo pos (starEach [tn] X.env)).any (·.1) = false := by rfl) :
    PE X (.Call (.Name "isinstance" ep) [e, tn] [] pos) (tE (G.heat (some (p.1, c))) W (eOp (fIsE k) [o])) :=
  (pe_callB (call_isQ hp (K ▸ C) hz hf) hg hm (by decide +kernel) (pa_cons ha (pa_cons ht pa_nil h2) h1) (by decide) (by decide) h1 hpl).weak fun σ H Q h => tO.mono (fun x H1 q => by
    obtain ⟨g, L, ds, c', rl, vw, e, q⟩ := q
    cases vw with
    | cons w n =>
      cases n
      unfold fIsE at e
      split at e
      · rename_i c2 hd
        cases hd
        cases e
        rcases w with w | ⟨_, _, _, z⟩
        · cases w with
          | exc hh =>
            cases hh
            exact ⟨_, .ref (G.cls k), _, rfl, (fun u hu => hu), by rw [K]; exact hkit, push_bl rl q⟩
        · exact z.elim
      · cases e) (eOp_args h)
end
end Sm

set_option Elab.async false
set_option linter.all false
set_option maxRecDepth 100000
set_option maxHeartbeats 2000000
/-! Sm, part J: list comprehensions, where an exception may be handled. -/
namespace Sm
open PySem PySem.Spec PyProof.Rows L2

/-- as Turn, for the contexts that CQ tells -/
structure TurnQ (CQ : Cx → Prop) (P : Program) (w : World) (K : PySem.W.Frag) (tg : Expr) (J : It) (fp : List Addr) (it : Addr) (tn : Nat → Heap → Prop) : Prop where
  obj : ∀ i h, tn i h → ∀ b ∈ fp, ∃ o, h.get? b = some o ∧ ∀ v, o.data ≠ .cell v
  keep : ∀ i h h', tn i h → (∀ b ∈ fp, ∀ o, h.get? b = some o → h'.get? b = some o) → tn i h'
  item : ∀ (X : Cx), X.prog = P → X.w = w → X.K = K → CQ X → ∀ (i : Nat) (pins : List (Addr × Obj)) (s : Shared) (σ : L2.St) (H : Hp) (E : Value → Shared → Prop), Inv X pins σ H s → (∀ b ∈ fp, FpOk X pins H b) → tn i s.heap → J.go i H →
    wpAny (model P w) X.A (pyNext (.ref it)) (fun r s1 => ∃ u, r = some u ∧
      wpAny (model P w) X.A (letOwnedTupleGo tg (.ref it) u) (fun _ s2 => ∃ x H', Inv X pins σ H' s2 ∧ RelV x u ∧ J.yld i H x H' ∧ tn (i + 1) s2.heap ∧ ∀ b ∈ fp, H' b = none) E s1) E s
  done : ∀ (X : Cx), X.prog = P → X.w = w → X.K = K → CQ X → ∀ (i : Nat) (pins : List (Addr × Obj)) (s : Shared) (σ : L2.St) (H : Hp) (E : Value → Shared → Prop), Inv X pins σ H s → (∀ b ∈ fp, FpOk X pins H b) → tn i s.heap → J.stop i H →
    wpAny (model P w) X.A (pyNext (.ref it)) (fun r s1 => r = none ∧ Inv X pins σ H s1) E s
  self : ∀ (A : Around) (i : Nat) (s : Shared) (Q : Value → Shared → Prop) (E : Value → Shared → Prop), tn i s.heap → Q (.ref it) s → wpAny (model P w) A (pyIter (.ref it)) Q E s
def Calm (X : Cx) : Prop := X.calm = true
theorem TurnQ.of {P : Program} {w : World} {K : PySem.W.Frag} {tg : Expr} {J : It} {fp : List Addr} {it : Addr} {tn : Nat → Heap → Prop} (T : Turn P w K tg J fp it tn) : TurnQ Calm P w K tg J fp it tn :=
  ⟨T.obj, T.keep, T.item, T.done, T.self⟩
def PIEQ (CQ : Cx → Prop) (X : Cx) (pins : List (Addr × Obj)) (σ : L2.St) (tg : Expr) (R : It → Hp → Prop) (itv : Value) (s2 : Shared) : Prop :=
  ∃ (it : Addr) (fp : List Addr) (tn : Nat → Heap → Prop) (J : It) (H' : Hp), itv = .ref it ∧ Inv X pins σ H' s2 ∧ TurnQ CQ X.prog X.w X.K tg J fp it tn ∧ tn 0 s2.heap ∧ (∀ b ∈ fp, FpOk X pins H' b) ∧ R J H'
structure PIQ (CQ : Cx → Prop) (X : Cx) (tg iter : Expr) (wi : TI) : Prop where
  run : ∀ (pins : List (Addr × Obj)) (s : Shared) (σ : L2.St) (H : Hp) (R : It → Hp → Prop), Inv X pins σ H s → wi σ H R →
    wpAny (model X.prog X.w) X.A (eval iter X.env) (fun v s1 => wpAny (model X.prog X.w) X.A (pyIter v) (PIEQ CQ X pins σ tg R) X.xe s1) X.xe s
theorem PIQ.of {X : Cx} {tg iter : Expr} {wi : TI} (h : PI X tg iter wi) : PIQ Calm X tg iter wi := ⟨fun pins s σ H R I q =>
  thn (h.run pins s σ H R I q) fun v s1 h1 => thn h1 fun itv s2 ⟨it, fp, tn, J, H', e, I', T, st, f, r⟩ => ⟨it, fp, tn, J, H', e, I', .of T, st, f, r⟩⟩
theorem PIQ.weak {CQ : Cx → Prop} {X : Cx} {tg iter : Expr} {t t' : TI} (h : PIQ CQ X tg iter t) (w : ∀ σ H R, t' σ H R → t σ H R) : PIQ CQ X tg iter t' := ⟨fun pins s σ H R I q => h.run pins s σ H R I (w σ H R q)⟩

/-- the context of a comprehension's block, with pins -/
abbrev blkP (X : Cx) (s : Shared) (H : Hp) (scope : Scope) (cenv : PySem.Env) (fp : List Addr) (pn : List (Addr × Obj)) : Cx :=
  { X with s_0 := s, H_0 := H, env := cenv, outer := X.stack, ex := fp, fn := fun x => scope.names.lookup x == some .cell, pn := pn, xe := fun _ _ => False }
section
variable {X : Cx} {pins : List (Addr × Obj)} {σ : L2.St} {H : Hp} {s : Shared}
theorem okP {scope : Scope} {cenv : PySem.Env} {fp : List Addr} {pn : List (Addr × Obj)} (ok : (X.blk s H scope cenv fp).Ok) : (blkP X s H scope cenv fp pn).Ok :=
  ⟨ok.mod, ok.kind, ok.glob, ok.blt, ok.above, ok.inj, ok.has, ok.cab, ok.hd, ok.frames, ok.stk, ok.exf, ok.bs, ok.bsz, ok.noex, ok.exfs, ok.funs, ok.frf⟩
theorem blk_pins {scope : Scope} {own : List (Str × Nat)} {fp : List Addr} (I : Inv X pins σ H s) (ok : BlkOk X.N X.env.scope scope own) (hN : X.N.Nodup) (hfp : ∀ b ∈ fp, FpOk X pins H b ∧ b < s.heap.objs.size) :
    Inv (blkP X s H scope (compEnvC scope (cellsFrom (s.heap.objs.size + 1) scope.names (cloFrom X.env.cells scope.names [])) s.heap.objs.size X.env) fp (X.pn ++ pins)) [] (wipe σ (own.map (·.2))) H { s with heap := pushCells (s.heap.push { cls := .type "dict", data := .dict #[] }) scope.names } := by
  have J := block_start I ok hN hfp
  refine ⟨okP J.ok, J.os, J.bare, J.base, J.loc, J.cell, J.free, J.freeC, fun p hp => ?_, J.hok, J.len⟩
  rw [List.append_nil] at hp
  have P1 := I.pin p hp
  refine ⟨pushCells_keeps _ _ _ _ (Heap.get?_push_of_some _ P1.1), P1.2.1, Nat.ne_of_lt (Heap.lt_size P1.1), fun hm => ?_, P1.2.2.2.2⟩
  exact (List.mem_cons.mp (I.stkSub p.1 hm)).elim P1.2.2.1 P1.2.2.2.1
variable {elt tg iter : Expr} {ifs : List Expr} {scope : Scope} {own : List (Str × Nat)} {pos pos' : Pos} {wi : TI} {g : TG} {tt : TT} {te : TE} {use : Option (Value → Sem Unit)} {Qf : Value → Shared → Prop} {Q : VK} {CQ : Cx → Prop}
/-- what the block's parts promise, in every such context -/
def InBlk (X : Cx) (scope : Scope) (f : Cx → Prop) : Prop := ∀ (s : Shared) (H : Hp) (C : Addr) (cl : List (Str × Addr)) (fp : List Addr) (pn : List (Addr × Obj)), (∀ p ∈ X.pn, p ∈ pn) → f (blkP X s H scope (compEnvC scope cl C X.env) fp pn)
theorem lcQ_core (hc : InBlk X scope CQ) (hN : X.N.Nodup) (I : Inv X pins σ H s) (hi : PIQ CQ X tg iter wi) (ok : BlkOk X.N X.env.scope scope own)
    (hg : InBlk X scope fun Y => PG Y tg g) (ht : InBlk X scope fun Y => PTs Y ifs tt) (he : InBlk X scope fun Y => PE Y elt te) (hs : ∀ x, foldedSetIterable iter X.env x = pure x)
    (h : tLc wi g tt te (own.map (·.2)) σ H Q)
    (hRR : ∀ D C s' m H', Inv X pins σ H' s' → Q (.ref D) H' → s'.heap.Ns C m → FpOk X pins H' C → compPost (model X.prog X.w) X.A X.xe use Qf (.ref D) C (.ok .next) s') :
    wpAny (model X.prog X.w) X.A (comprehension (.ListComp elt [⟨tg, iter, ifs, 0⟩] scope pos) scope X.env pos' (newList []) false (eval iter X.env) use) Qf X.xe s := by
  have hfree : ∀ y ∈ scope.names, y.2 = .free → ∃ c, X.env.cells.lookup y.1 = some c := fun y hy e => (ok.free y hy e).elim (fun k => I.ok.has _ (.inl k)) fun k => I.ok.has _ (.inr k)
  refine wpAny_comprehension_free (use := use) rfl hs (closure_ok hfree) ok.kind (fun y hy e => by rw [ok.uniq y hy, e])
    (thn (hi.run pins s σ H _ I h) fun xv s1 hx => thn hx fun itv s2 h2 => ?_)
  obtain ⟨it, fp, tn, J, H2, rfl, I2, T, st2, f2, q⟩ := h2
  refine wpAny_newObj_type (newEnv_comp ?_) (by show 0 ≤ sizeLine; decide)
  generalize hD : s2.heap.objs.size = D
  obtain ⟨W, ⟨m0, w0⟩, turn⟩ := q D (I2.hok.fresh (Nat.le_of_eq hD))
  generalize hs3 : ({ s2 with heap := s2.heap.push { cls := .type "list", data := .seq ([] : List Value).toArray } } : Shared) = s3
  have I3 : Inv X pins σ (upd H2 D (.lst [])) s3 := by
    rw [← hs3]
    refine I2.laid (t' := s2.toks) (fun b o e => Heap.get?_push_of_some _ e) (Nat.le_of_eq hD) ⟨Nat.zero_le _, [], 0, .nil, ?_⟩
    rw [← hD]
    exact Heap.get?_push_size _ rfl
  have h3 : s3.heap = s2.heap.push { cls := .type "list", data := .seq ([] : List Value).toArray } := by rw [← hs3]
  have f3 : ∀ b ∈ fp, FpOk X pins (upd H2 D (.lst [])) b ∧ b < s3.heap.objs.size := fun b hb => by
    obtain ⟨o, e, _⟩ := T.obj _ _ st2 b hb
    have hlt := Heap.lt_size e
    refine ⟨⟨?_, (f2 b hb).2⟩, by rw [h3, Heap.size_push]; exact Nat.lt_succ_of_lt hlt⟩
    rw [upd_ne (by rw [← hD]; exact Nat.ne_of_lt hlt)]
    exact (f2 b hb).1
  have st3 : tn 0 s3.heap := T.keep _ _ _ st2 fun b _ o e => by rw [h3]; exact Heap.get?_push_of_some _ e
  have I4 := blk_pins I3 ok hN f3
  have sub : ∀ p ∈ X.pn, p ∈ X.pn ++ pins := fun p hp => List.mem_append_left _ hp
  have cq := hc s3 (upd H2 D (.lst [])) s3.heap.objs.size (cellsFrom (s3.heap.objs.size + 1) scope.names (cloFrom X.env.cells scope.names [])) fp _ sub
  have pg := hg s3 (upd H2 D (.lst [])) s3.heap.objs.size (cellsFrom (s3.heap.objs.size + 1) scope.names (cloFrom X.env.cells scope.names [])) fp _ sub
  have pt := ht s3 (upd H2 D (.lst [])) s3.heap.objs.size (cellsFrom (s3.heap.objs.size + 1) scope.names (cloFrom X.env.cells scope.names [])) fp _ sub
  have pe := he s3 (upd H2 D (.lst [])) s3.heap.objs.size (cellsFrom (s3.heap.objs.size + 1) scope.names (cloFrom X.env.cells scope.names [])) fp _ sub
  show codeAny _ _ (.compStart (.ListComp elt [⟨tg, iter, ifs, 0⟩] scope pos) 0 (.ref it) (.ref D) (compEnvC scope (cellsFrom (s3.heap.objs.size + 1) scope.names (cloFrom X.env.cells scope.names [])) s3.heap.objs.size X.env)) (compPost (model X.prog X.w) X.A X.xe use Qf (.ref D) s3.heap.objs.size) { s3 with heap := pushCells (s3.heap.push { cls := .type "dict", data := .dict #[] }) scope.names }
  have nfp : ∀ b ∈ fp, (upd H2 D (.lst [])) b = none := fun b hb => (f3 b hb).1.1
  generalize hce : compEnvC scope (cellsFrom (s3.heap.objs.size + 1) scope.names (cloFrom X.env.cells scope.names [])) s3.heap.objs.size X.env = ce at I4 cq pg pt pe ⊢
  have cL : ce.locals = s3.heap.objs.size := by subst hce; rfl
  generalize hH3 : upd H2 D (.lst []) = H3 at I3 I4 cq pg pt pe w0 nfp f3
  generalize hs4 : ({ s3 with heap := pushCells (s3.heap.push { cls := .type "dict", data := .dict #[] }) scope.names } : Shared) = s4 at I4 ⊢
  have st4 : tn 0 s4.heap := T.keep _ _ _ st3 fun b _ o e => by rw [← hs4]; exact pushCells_keeps _ _ _ _ (Heap.get?_push_of_some _ e)
  generalize hY : blkP X s3 H3 scope ce fp (X.pn ++ pins) = Y at I4 cq pg pt pe
  have y1 : Y.prog = X.prog := by rw [← hY]
  have y2 : Y.w = X.w := by rw [← hY]
  have y3 : Y.K = X.K := by rw [← hY]
  have y4 : Y.A = X.A := by rw [← hY]
  have y5 : Y.env = ce := by rw [← hY]
  have y6 : Y.ex = fp := by rw [← hY]
  have y7 : Y.xe = fun _ _ => False := by rw [← hY]
  -- the iterator's objects are none of the pins
  have apart : ∀ b ∈ fp, ∀ p ∈ Y.pn ++ [], p.1 ≠ b := fun b hb p hp => by
    rw [← hY, List.append_nil] at hp
    exact (f3 b hb).1.2.2.2.2.2 p hp
  have stat : ∀ {σ' : L2.St} {H' : Hp} {s' : Shared}, Inv Y [] σ' H' s' → (∀ b ∈ fp, H' b = none) → ∀ b ∈ fp, FpOk Y [] H' b := fun {σ' H' s'} I' hn b hb =>
    ⟨hn b hb, (I'.ok.exf b (by rw [y6]; exact hb)).1, I'.ok.exfs b (by rw [y6]; exact hb), .inl (by rw [y6]; exact hb), fun x c e => (I'.ok.exf b (by rw [y6]; exact hb)).2 x c e, apart b hb⟩
  have loop : codeAny (model X.prog X.w) X.A (.compLoop (.ListComp elt [⟨tg, iter, ifs, 0⟩] scope pos) 0 (.ref it) (.ref D) ce) (compPost (model X.prog X.w) X.A X.xe use Qf (.ref D) s3.heap.objs.size) s4 := by
    refine compLoop_any (fun n s' => ∃ i H', Inv Y [] (wipe σ (own.map (·.2))) H' s' ∧ tn i s'.heap ∧ (∀ b ∈ fp, H' b = none) ∧ W i n H') ?_ m0 ⟨0, H3, I4, st4, nfp, w0⟩
    rintro n s5 ⟨i, H5, I5, st5, n5, w5⟩
    rcases turn i n H5 w5 with ⟨stop, qq⟩ | ⟨go, Nx, hNx, step⟩
    · have td := T.done Y y1 y2 y3 cq i [] s5 _ H5 (fun _ _ => False) I5 (stat I5 n5) st5 stop
      rw [y4] at td
      refine thnF td fun r s6 ⟨hr, I6⟩ => ?_
      subst hr
      rw [← hY] at I6
      have I7 : Inv X pins σ H5 s6 := I3.call' (ch := fp) I6.os I6.base I6.hok I6.bare fun b hb => ⟨(f3 b hb).1.2.2.2.1, (f3 b hb).1.2.1, (f3 b hb).1.2.2.2.2.1, (f3 b hb).1.2.2.2.2.2⟩
      have nC : H5 s3.heap.objs.size = none := by
        have z : H5 ce.locals = none := I6.free
        rw [cL] at z
        exact z
      obtain ⟨m, hn, _⟩ := I6.loc
      have hn : s6.heap.Ns ce.locals m := hn
      rw [cL] at hn
      exact hRR D s3.heap.objs.size s6 m H5 I7 qq hn (I3.fpOk (Nat.le_refl _) nC)
    · have ti := T.item Y y1 y2 y3 cq i [] s5 _ H5 (fun _ _ => False) I5 (stat I5 n5) st5 go
      rw [y4] at ti
      refine thnF ti fun r s6 ⟨u, hr, h6⟩ => ?_
      subst hr
      refine thnF h6 fun _ s7 ⟨x, H7, I7, r7, y7', st7, n7⟩ => ?_
      have I7' := I7.pinned (stat I7 n7) (T.obj _ _ st7)
      have pg' := pg.run _ s7 _ H7 x u _ I7' r7 (step x H7 y7')
      rw [y1, y2, y4, y5, y7] at pg'
      refine thnF pg' fun _ s8 ⟨σ8, H8, I8, hw8, q8⟩ => ?_
      have pt' := pt.run _ s8 σ8 H8 _ I8 q8
      rw [y1, y2, y4, y5, y7] at pt'
      refine thnF pt' fun b s9 ⟨H9, I9, q9⟩ => ?_
      have fin : ∀ {s' : Shared} {H' : Hp}, Inv Y ([] ++ pinsAt fp s7.heap) σ8 H' s' → Nx H' → ∃ m, m < n ∧ ∃ i H', Inv Y [] (wipe σ (own.map (·.2))) H' s' ∧ tn i s'.heap ∧ (∀ b ∈ fp, H' b = none) ∧ W i m H' := fun {s' H'} I' nx => by
        obtain ⟨m', hm, w'⟩ := hNx H' nx
        have pin' : ∀ b ∈ fp, ∀ o, s7.heap.get? b = some o → s'.heap.get? b = some o ∧ H' b = none := fun b hb o e =>
          let z := I'.pin (b, o) (List.mem_append_right _ (List.mem_append_right _ (mem_pinsAt hb e)))
          ⟨z.1, z.2.1⟩
        have hl : (wipe σ (own.map (·.2))).length = σ8.length := by rw [← hw8, wipe_length]
        refine ⟨m', hm, i + 1, H', (I'.unpinned (pins := [])).weak hl (fun j v e => ?_), T.keep _ _ _ st7 fun b hb o e => (pin' b hb o e).1, fun b hb => ?_, w'⟩
        · rw [← hw8] at e
          exact (wipe_some e).1
        · obtain ⟨o, e, _⟩ := T.obj _ _ st7 b hb
          exact (pin' b hb o e).2
      cases b with
      | false =>
        simp only [Bool.false_eq_true, if_false] at q9 ⊢
        exact fin I9 q9
      | true =>
        simp only [if_true] at q9 ⊢
        have pe' := pe.run _ s9 σ8 H9 _ I9 q9
        rw [y1, y2, y4, y5, y7] at pe'
        refine thnF pe' fun z s10 ⟨yv, H10, I10, r10, acc, hD10, hz10, nx⟩ => ?_
        have ap := app_ok (X := Y) (E := fun e s' => False) (Q := fun _ s5 => ∃ m, m < n ∧ ∃ i H', Inv Y [] (wipe σ (own.map (·.2))) H' s5 ∧ tn i s5.heap ∧ (∀ b ∈ fp, H' b = none) ∧ W i m H') I10 hD10 hz10 r10 fun s11 I11 => fin I11 nx
        rw [y1, y2, y4] at ap
        exact thnF ap fun _ _ q => q
  exact codeAny_compStart_list loop (T.self X.A 0 _ _ _ st4 loop)
/-- as a value -/
theorem pe_lcQ (hc : InBlk X scope CQ) (hN : X.N.Nodup) (hi : PIQ CQ X tg iter wi) (ok : BlkOk X.N X.env.scope scope own)
    (hg : InBlk X scope fun Y => PG Y tg g) (ht : InBlk X scope fun Y => PTs Y ifs tt) (he : InBlk X scope fun Y => PE Y elt te) (hs : ∀ x, foldedSetIterable iter X.env x = pure x := by intro _; rfl) :
    PE X (.ListComp elt [⟨tg, iter, ifs, 0⟩] scope pos) (tLc wi g tt te (own.map (·.2))) := by
  refine ⟨fun pins s σ H Q I h => ?_⟩
  rw [eval_ListComp]
  refine lcQ_core hc hN I hi ok hg ht he hs h fun D C s' m H' I' q hn f => ⟨m, hn, fun h'' sb => ?_⟩
  obtain ⟨f0, f1, f2, f3, f4, f5⟩ := f
  exact ⟨.ref D, H', I'.turned (t' := s'.toks) (fun b o hb e => (sb.2 b hb).trans e) f0 f1 f3 f4 f5, rfl, q⟩
/-- name = [..] on one line, the name a local -/
theorem ps_setLcQ {i : Nat} {y : Str} {py spos : Pos} (hc : InBlk X scope CQ) (hN : X.N.Nodup) (hy : X.N[i]? = some y) (hyl : X.env.scope.names.lookup y = some .local)
    (hsw : swapsWith (.ListComp elt [⟨tg, iter, ifs, 0⟩] scope pos) (some (.Name y py)) spos.line X.env = pure true) (hi : PIQ CQ X tg iter wi) (ok : BlkOk X.N X.env.scope scope own)
    (hg : InBlk X scope fun Y => PG Y tg g) (ht : InBlk X scope fun Y => PTs Y ifs tt) (he : InBlk X scope fun Y => PE Y elt te) (hs : ∀ x, foldedSetIterable iter X.env x = pure x := by intro _; rfl) :
    PS X (.Assign [.Name y py] (.ListComp elt [⟨tg, iter, ifs, 0⟩] scope pos) spos) (tAsg (tLc wi g tt te (own.map (·.2))) (gName i)) := by
  refine ⟨fun pins s σ H D I h => ?_⟩
  rw [exec_Assign_Name_used _ _ _ _ hsw]
  refine wpAny_bind (wpAny_standAt (wpAny_bind ?_))
  show wpAny _ X.A (do let _ ← comprehension (.ListComp elt [⟨tg, iter, ifs, 0⟩] scope pos) scope X.env (firstIterPos [⟨tg, iter, ifs, 0⟩] pos) (newList []) false (eval iter X.env) (some (assign (.Name y py) X.env))) _ _ s
  have h : tLc wi g tt te (own.map (·.2)) σ H (fun x H1 => gName i x σ H1 D.nx) := h
  refine wpAny_bind (thn (lcQ_core (Qf := fun _ s' => SP X pins D .next s') hc hN I hi ok hg ht he hs h fun L C s' m H' I' q hn f => ?_) fun _ s' hq => wpAny_pure (wpAny_pure hq))
  show wpAny _ _ (assign (.Name y py) X.env (.ref L)) _ _ _
  refine wpAny_assign_Name (store_ok2 (v := V.ref L) I' hN hy (.inl hyl) rfl (fun s2 I2 ⟨a, sb, ha⟩ => ?_) (.inr hyl))
  obtain ⟨f0, f1, f2, f3, f4, f5⟩ := f
  have haC : C ≠ a := by
    rcases ha with z | z
    · rw [z]; exact f1
    · exact fun e => f4 y a z e.symm
  refine ⟨m, hn.sameBut sb haC, fun h3 sb3 => ?_⟩
  exact ⟨_, H', I2.turned (t' := s2.toks) (fun b o hb e => (sb3.2 b hb).trans e) f0 f1 f3 f4 f5, q⟩
end
/-! a list, a tuple walked, calm or hot -/
section
variable {X : Cx} {P : Program} {w : World} {K : PySem.W.Frag} {tg iter : Expr}
theorem turn_listQ (a it : Addr) : TurnQ Qt P w K tg (Itl K a) [it] it (fun i h => h.IsListIter it a i) := by
  have T := turn_list (P := P) (w := w) (K := K) (tg := tg) a it
  refine ⟨T.obj, T.keep, ?_, ?_, T.self⟩
  · intro X hP hw hK hc i pins s σ H E I hf st hg
    subst hP hw hK
    obtain ⟨xs, x, hq, hx⟩ := hg
    obtain ⟨its, rv, p, hz⟩ := I.list hq
    obtain ⟨u, hu, ru⟩ := rv.get hx
    obtain ⟨f0, f1, f2, f3, f4, f5⟩ := hf it (by simp)
    refine wpAny_pyNext_list_item st p.isList (x := u) (by simpa using hu) fun h' st' sb => ?_
    have I1 : Inv X pins σ H { s with heap := h' } := I.turned (t' := s.toks) (fun b o hb e => (sb.2 b hb).trans e) f0 f1 f3 f4 f5
    obtain ⟨o, e, c, d⟩ := id st'
    exact ⟨u, rfl, go_of (s := { s with heap := h' }) e c d (by decide) ⟨x, H, I1, ru, ⟨rfl, fun ys hy => by rw [I.list_inj hy hq]; exact hx⟩, st', fun b hb => (hf b hb).1⟩⟩
  · intro X hP hw hK hc i pins s σ H E I hf st hg
    subst hP hw hK
    obtain ⟨xs, hq, hl⟩ := hg
    obtain ⟨its, rv, p, hz⟩ := I.list hq
    obtain ⟨f0, f1, f2, f3, f4, f5⟩ := hf it (by simp)
    refine list_end_q (hc.at I) st p.isList (by have := rv.length; simp; omega) fun h' eb => ⟨rfl, I.turned (t' := s.toks) (fun b o hb e => eb b o hb e) f0 f1 f3 f4 f5⟩
theorem piq_list {tl : TE} (hl : PE X iter tl) : PIQ Qt X tg iter (iList X.K tl) := by
  refine ⟨fun pins s σ H R I h => ?_⟩
  refine thn (hl.run pins s σ H _ I h) fun v s1 ⟨x, H1, I1, r1, q1⟩ => ?_
  obtain ⟨a, rfl, ⟨xs, hq⟩, q⟩ := q1
  cases r1
  obtain ⟨its, rv, p, hz⟩ := I1.list hq
  refine wpAny_pyIter_list p.isList ?_
  refine ⟨s1.heap.objs.size, [s1.heap.objs.size], _, _, H1, rfl, I1.kept (t' := s1.toks) fun b o e => Heap.get?_push_of_some _ e, turn_listQ a _, ⟨_, Heap.get?_push_size _ rfl, rfl, rfl⟩, fun b hb => ?_, q⟩
  rw [List.mem_singleton.mp hb]
  exact I1.fpOk (Nat.le_refl _) (I1.hok.fresh (Nat.le_refl _))
theorem inBlk_calm {scope : Scope} (h : X.calm = true) : InBlk X scope Calm := fun _ _ _ _ _ _ _ => h
theorem inBlk_qt {scope : Scope} (h : Qt X) : InBlk X scope Qt := fun _ _ _ _ _ pn hp => by
  rcases h with h | ⟨p, h1, h2⟩
  · exact .inl h
  · exact .inr ⟨p, h1, hp p h2⟩
end
end Sm

set_option Elab.async false
set_option linter.all false
set_option maxRecDepth 100000
set_option maxHeartbeats 1000000
/-! Sm, part K: list comprehensions, changes of what is owned. -/
namespace Sm
open PySem PySem.Spec PyProof.Rows L2

/-! ### [e for t in it if c] -/
def wipeE (ρ : Env) : List Nat → Env
  | [] => ρ
  | v :: vs => (wipeE ρ vs).set v .emp
def lcL (t : Tg) (c e : DE) (vs : List Nat) : List D → List D → Env → ER
  | [], acc, ρ => .ok (ow (.lst acc)) (wipeE ρ vs)
  | d :: ds, acc, ρ => match asgV t d (wipeE ρ vs) with
    | none => .stk
    | some ρ1 => match c ρ1 with
      | .ok (.c _ _ (.bl false)) ρ2 => lcL t c e vs ds acc (wipeE ρ2 vs)
      | .ok (.c _ _ (.bl true)) ρ2 => match e ρ2 with
        | .ok (.c _ _ x) ρ3 => if acc.length < SZ then lcL t c e vs ds (acc ++ [x]) (wipeE ρ3 vs) else .stk
        | _ => .stk
      | _ => .stk
def eLc (it : DI) (t : Tg) (c e : DE) (vs : List Nat) : DE := fun ρ => match it ρ with
  | .ok ds ρ1 => lcL t c e vs ds [] ρ1
  | .exc n ρ1 => .exc n ρ1
  | .stk => .stk
abbrev WF0 : WX := fun _ _ _ _ => False
def dYes : DE := fun ρ => .ok (vl (.bl true)) ρ
section
variable {X : Cx} {G : Gam} {g : Nat → V} {W : WX} {pos : Pos} {T : Tmp} {H : Hp} {ρ : Env} {σ : L2.St}
theorem wipeE_rel (r : Rel G g ρ σ T H) : ∀ vs : List Nat, Rel G g (wipeE ρ vs) (wipe σ vs) T H
  | [] => r
  | v :: vs => by
    have r1 := wipeE_rel r vs
    unfold wipeE wipe
    cases e : (wipeE ρ vs)[v]? with
    | none =>
      have hi := List.getElem?_eq_none_iff.mp e
      rw [List.set_eq_of_length_le hi, List.set_eq_of_length_le (by have := r1.1; omega)]
      exact r1
    | some c0 =>
      obtain ⟨s, L, es, r2, k⟩ := Rel.take r1 e
      exact k .emp none T H (RelL.pushE (v := none) r2.tail)
theorem wipe_at : ∀ (vs : List Nat) (σ : L2.St) (j : Nat), (wipe σ vs)[j]? = if j ∈ vs ∧ j < σ.length then some none else σ[j]?
  | [], σ, j => by simp [wipe]
  | v :: vs, σ, j => by
    unfold wipe
    by_cases q : v = j
    · subst q
      by_cases hl : v < σ.length
      · rw [List.getElem?_set_self (by rw [wipe_length]; exact hl), if_pos ⟨List.mem_cons_self, hl⟩]
      · rw [List.set_eq_of_length_le (by rw [wipe_length]; omega), wipe_at vs σ v, if_neg (fun z => hl z.2), if_neg (fun z => hl z.2)]
    · rw [List.getElem?_set_ne q, wipe_at vs σ j]
      by_cases h1 : j ∈ vs
      · simp [h1]
      · have : j ∉ v :: vs := fun z => by
          rcases List.mem_cons.mp z with z | z
          · exact q z.symm
          · exact h1 z
        simp [h1, this]
theorem wipeE_length (ρ : Env) : ∀ vs : List Nat, (wipeE ρ vs).length = ρ.length
  | [] => rfl
  | v :: vs => by unfold wipeE; rw [List.length_set, wipeE_length ρ vs]
theorem wipeE_at : ∀ (vs : List Nat) (σ : Env) (j : Nat), (wipeE σ vs)[j]? = if j ∈ vs ∧ j < σ.length then some .emp else σ[j]?
  | [], σ, j => by simp [wipeE]
  | v :: vs, σ, j => by
    unfold wipeE
    by_cases q : v = j
    · subst q
      by_cases hl : v < σ.length
      · rw [List.getElem?_set_self (by rw [wipeE_length]; exact hl), if_pos ⟨List.mem_cons_self, hl⟩]
      · rw [List.set_eq_of_length_le (by rw [wipeE_length]; omega), wipeE_at vs σ v, if_neg (fun z => hl z.2), if_neg (fun z => hl z.2)]
    · rw [List.getElem?_set_ne q, wipeE_at vs σ j]
      by_cases h1 : j ∈ vs
      · simp [h1]
      · have : j ∉ v :: vs := fun z => by
          rcases List.mem_cons.mp z with z | z
          · exact q z.symm
          · exact h1 z
        simp [h1, this]
theorem wipeE_zip {vs : List Nat} {i : Nat} {p : Cell × Option V} (h : ((wipeE ρ vs).zip σ)[i]? = some p) : p.1 = .emp ∨ ((wipeE ρ vs).zip (wipe σ vs))[i]? = some p := by
  obtain ⟨c, s⟩ := p
  obtain ⟨e1, e2⟩ := List.getElem?_zip_eq_some.mp h
  by_cases hv : i ∈ vs ∧ i < ρ.length
  · rw [wipeE_at, if_pos hv] at e1
    cases e1
    exact .inl rfl
  · refine .inr (List.getElem?_zip_eq_some.mpr ⟨e1, ?_⟩)
    have h1 := (List.getElem?_eq_some_iff.mp e1).1
    rw [wipeE_length] at h1
    rw [wipe_at, if_neg (fun z => hv ⟨z.1, h1⟩)]
    exact e2
theorem wipeE_back {vs : List Nat} {σ : L2.St} (r : Rel G g (wipeE ρ vs) (wipe σ vs) T H) : Rel G g (wipeE ρ vs) σ T H := by
  refine ⟨by rw [r.1, wipe_length], ?_⟩
  refine r.2.sub ?_ ?_
  · intro p hp
    rcases List.mem_append.mp hp with hp | hp
    · obtain ⟨i, hi, e⟩ := List.mem_iff_getElem.mp hp
      rcases wipeE_zip (i := i) (p := p) (by rw [List.getElem?_eq_getElem hi, e]) with z | z
      · exact .inr z
      · exact .inl (List.mem_append_left _ (List.mem_of_getElem? z))
    · exact .inl (List.mem_append_right _ hp)
  · have nd := r.2.nd
    rw [owns_append] at nd ⊢
    refine nd.sublist (List.Sublist.append_right (owns_sub fun i p h => ?_) _)
    rcases wipeE_zip h with z | z
    · refine .inl ?_
      obtain ⟨c, s⟩ := p
      cases z
      rfl
    · exact .inr ⟨p, z, rfl⟩
theorem wipe_but {is vs : List Nat} {σ2 : L2.St} (b : But is (wipe σ vs) σ2) (h : ∀ i ∈ is, i ∈ vs) : wipe σ2 vs = wipe σ vs := by
  have hl : σ2.length = σ.length := b.1.trans (wipe_length σ vs)
  apply List.ext_getElem?
  intro j
  rw [wipe_at, wipe_at, hl]
  by_cases hj : j ∈ vs ∧ j < σ.length
  · rw [if_pos hj, if_pos hj]
  · rw [if_neg hj, if_neg hj]
    by_cases hv : j ∈ vs
    · have hn : ¬ j < σ.length := fun z => hj ⟨hv, z⟩
      rw [List.getElem?_eq_none_iff.mpr (by omega), List.getElem?_eq_none_iff.mpr (by omega)]
    · rw [b.2 j (fun z => hv (h j z)), wipe_at, if_neg (fun z => hv z.1)]
variable {di : DI} {t : Tg} {dc de : DE} {vs : List Nat}
/-- what is at the head goes to an owned list's end -/
theorem RelL.grow {L : Tmp} {P : Addr} {acc : List Sm.D} {x : Sm.D} {o : Bool} {b b2 : Option Nat} {v : V} (r : RelL G g ((.c o b2 x, some v) :: (.c true b (.lst acc), some (.ref P)) :: L) H) :
    ∃ vs, H P = some (.lst vs) ∧ vs.length = acc.length ∧ RelL G g ((.c true b (.lst (acc ++ [x])), some (.ref P)) :: L) (upd H P (.lst (vs ++ [v]))) := by
  have r1 := r.val
  have rp := r1.rep
  have r2 := r1.tail
  have c := r2.ok _ List.mem_cons_self
  obtain ⟨_, vs, hv, ks⟩ := c
  refine ⟨vs, hv, ks.length, r2.mut ⟨vs ++ [v], upd_same, ?_⟩⟩
  have e : owns ((Cell.c true b (.lst acc), some (V.ref P)) :: L) = P :: owns L := by rw [owns_cons]; rfl
  rw [e] at ks rp
  have hm : ∀ a u, H a = some u → ¬ (a ∈ P :: owns L) → upd H P (.lst (vs ++ [v])) a = some u ∧ ¬ (a = P ∨ a ∈ owns L) := fun a u h n => by
    have hn : a ≠ P := fun z => n (by rw [z]; exact List.mem_cons_self)
    exact ⟨by rw [upd_ne hn]; exact h, fun z => n (List.mem_cons.mpr z)⟩
  exact (ks.mono hm).append (.one (rp.mono hm))
theorem lc_tr {Q : VK} (ht : ∀ i ∈ t.slots, i ∈ vs) (h : tE G W (eLc di t dc de vs) σ H Q) : tLc (tI G W di) (tG G t) (tT G WF0 dc) (tE G WF0 de) vs σ H Q := by
  obtain ⟨g, ρ, T, r, h⟩ := h
  refine ⟨g, ρ, T, r, ?_⟩
  unfold eLc at h
  cases e : di ρ with
  | stk => rw [e] at h; exact h
  | exc n ρ' => rw [e] at h; exact h
  | ok ds ρ1 =>
    rw [e] at h
    intro J T0 H1 r1 src P hP
    refine ⟨fun i m H => m = ds.length - i ∧ i ≤ ds.length ∧ ∃ ρ acc, Rel G g ρ σ ((.c true none (.lst acc), some (.ref P)) :: (T0 ++ T)) H ∧ EPost G g σ T Q W (lcL t dc de vs (ds.drop i) acc ρ), ⟨ds.length, by simp, Nat.zero_le _, ρ1, [], ?_, h⟩, ?_⟩
    · exact Rel.of_head r1.1 (r1.2.newLst hP .nil)
    rintro i m H ⟨rfl, hi, ρ, acc, r, h⟩
    have pm : ∀ (A : Tmp) (p : Cell × Option V), (p :: (T0 ++ A)).Perm (T0 ++ p :: A) := fun A p => (mid_perm _ _ _).symm
    by_cases hlt : i < ds.length
    · rw [List.drop_eq_getElem_cons hlt] at h
      unfold lcL at h
      have r' : Rel G g ρ σ (T0 ++ (.c true none (.lst acc), some (.ref P)) :: T) H := ⟨r.1, r.2.perm (List.Perm.append_left _ (pm _ _))⟩
      have rw2 := wipeE_rel r' vs
      obtain ⟨go, yl⟩ := (src ((.c true none (.lst acc), some (.ref P)) :: T)).go i ds[i] _ _ H (List.getElem?_eq_getElem hlt) rw2
      refine .inr ⟨go, fun H' => ∃ ρ acc, Rel G g ρ σ ((.c true none (.lst acc), some (.ref P)) :: (T0 ++ T)) H' ∧ EPost G g σ T Q W (lcL t dc de vs (ds.drop (i + 1)) acc ρ), fun H' q => ⟨ds.length - (i + 1), by omega, rfl, hlt, q⟩, fun x H' y => ?_⟩
      have rx := yl x H' y
      cases q : asgV t ds[i] (wipeE ρ vs) with
      | none => rw [q] at h; exact h.elim
      | some ρ2 =>
        rw [q] at h
        refine ⟨g, _, _, ds[i], rx, ρ2, q, fun σ2 H2 r2 bt => ⟨wipe_but bt ht, g, ρ2, _, r2, ?_⟩⟩
        have back : ∀ {ρ3 : Env} {acc' : List D} {H3 : Hp}, Rel G g ρ3 σ2 (T0 ++ (.c true none (.lst acc'), some (.ref P)) :: T) H3 → Rel G g (wipeE ρ3 vs) σ ((.c true none (.lst acc'), some (.ref P)) :: (T0 ++ T)) H3 := fun {ρ3 acc' H3} r3 => by
          have r4 := wipeE_rel r3 vs
          rw [wipe_but bt ht] at r4
          have r5 := wipeE_back r4
          exact ⟨r5.1, r5.2.perm (List.Perm.append_left _ (pm _ _).symm)⟩
        simp only at h
        cases e2 : dc ρ2 with
        | stk => rw [e2] at h; exact h.elim
        | exc n ρ3 => rw [e2] at h; exact h.elim
        | ok c ρ3 =>
          rw [e2] at h
          cases c with
          | emp => exact h.elim
          | c o b' d =>
            cases d with
            | bl b =>
              intro H3 r3
              cases b with
              | false =>
                simp only at h
                rw [if_neg (by decide)]
                exact ⟨wipeE ρ3 vs, acc, back r3, h⟩
              | true =>
                rw [if_pos rfl]
                simp only at h
                refine ⟨g, ρ3, _, r3, ?_⟩
                cases e3 : de ρ3 with
                | stk => rw [e3] at h; exact h.elim
                | exc n ρ3 => rw [e3] at h; exact h.elim
                | ok c ρ4 =>
                  rw [e3] at h
                  cases c with
                  | emp => exact h.elim
                  | c o2 b2 x2 =>
                    simp only at h
                    intro v4 H4 r4
                    split at h
                    · rename_i hz
                      have p4 : RelL G g ((.c o2 b2 x2, some v4) :: (.c true none (.lst acc), some (.ref P)) :: (ρ4.zip σ2 ++ (T0 ++ T))) H4 := by
                        refine r4.2.perm ?_
                        refine (mid_perm _ _ _).trans (List.Perm.cons _ ?_)
                        exact (List.Perm.append_left _ (pm _ _).symm).trans (mid_perm _ _ _)
                      obtain ⟨vs', hv, hl, r5⟩ := p4.grow
                      refine ⟨vs', hv, by rw [hl, ← SZ_eq]; exact hz, wipeE ρ4 vs, acc ++ [x2], back ?_, h⟩
                      refine ⟨r4.1, r5.perm ?_⟩
                      exact ((List.Perm.append_left _ (pm _ _).symm).trans (mid_perm _ _ _)).symm
                    · exact h.elim
            | _ => exact h.elim
    · have e3 : i = ds.length := by omega
      subst e3
      rw [List.drop_length] at h
      refine .inl ⟨(src T).stop ρ σ H r.pop, ?_⟩
      have rr := wipeE_back (wipeE_rel r vs)
      have r9 : RelL G g ((wipeE ρ vs).zip σ ++ (ow (.lst acc), some (.ref P)) :: T) H := by
        refine RelL.sub rr.2 (fun p hp => ?_) ?_
        · rcases List.mem_append.mp hp with hp | hp
          · exact .inl (List.mem_append_left _ hp)
          · rcases List.mem_cons.mp hp with hp | hp
            · rw [hp]; exact .inl (List.mem_append_right _ List.mem_cons_self)
            · exact .inl (List.mem_append_right _ (List.mem_cons_of_mem _ (List.mem_append_right _ hp)))
        · refine rr.2.nd.sublist ?_
          unfold owns
          exact List.Sublist.filterMap _ (List.Sublist.append_left ((List.sublist_append_right T0 T).cons₂ _) _)
      exact h (.ref P) H ⟨rr.1, r9⟩
variable {elt tg iter : Expr} {ifs : List Expr} {scope : Scope} {own : List (Str × Nat)} {CQ : Cx → Prop}
theorem ts_none : PTs X [] (tT G W dYes) := ⟨fun pins s σ H Q I ⟨g, ρ, T, r, h⟩ => pts_nil.run pins s σ H Q I (h H r)⟩
theorem se_lc (hc : InBlk X scope CQ) (hN : X.N.Nodup) (hi : PIQ CQ X tg iter (tI G W di)) (ok : BlkOk X.N X.env.scope scope own) (hv : own.map (·.2) = vs) (ht : ∀ i ∈ t.slots, i ∈ vs)
    (hg : InBlk X scope fun Y => PG Y tg (tG G t)) (hts : InBlk X scope fun Y => PTs Y ifs (tT G WF0 dc)) (he : InBlk X scope fun Y => PE Y elt (tE G WF0 de)) (hs : ∀ x, foldedSetIterable iter X.env x = pure x := by intro _; rfl) :
    PE X (.ListComp elt [⟨tg, iter, ifs, 0⟩] scope pos) (tE G W (eLc di t dc de vs)) :=
  (pe_lcQ hc hN hi ok hg hts he hs).weak fun σ H Q h => hv ▸ lc_tr ht h
/-- x = [..] on one line -/
theorem ss_lc {i : Nat} {y : Str} {py spos cpos : Pos} (hc : InBlk X scope CQ) (hN : X.N.Nodup) (hy : X.N[i]? = some y) (hyl : X.env.scope.names.lookup y = some .local)
    (hsw : swapsWith (.ListComp elt [⟨tg, iter, ifs, 0⟩] scope cpos) (some (.Name y py)) spos.line X.env = pure true) (hi : PIQ CQ X tg iter (tI G W di)) (ok : BlkOk X.N X.env.scope scope own) (hv : own.map (·.2) = vs) (ht : ∀ i ∈ t.slots, i ∈ vs)
    (hg : InBlk X scope fun Y => PG Y tg (tG G t)) (hts : InBlk X scope fun Y => PTs Y ifs (tT G WF0 dc)) (he : InBlk X scope fun Y => PE Y elt (tE G WF0 de)) (hs : ∀ x, foldedSetIterable iter X.env x = pure x := by intro _; rfl) :
    PS X (.Assign [.Name y py] (.ListComp elt [⟨tg, iter, ifs, 0⟩] scope cpos) spos) (tS G W (sAsg i (eLc di t dc de vs))) :=
  (ps_setLcQ hc hN hy hyl hsw hi ok hg hts he hs).weak fun E σ H ⟨g, ρ, T, r, h⟩ => by
    refine hv ▸ lc_tr ht ⟨g, ρ, T, r, ?_⟩
    unfold sAsg at h
    cases e : eLc di t dc de vs ρ with
    | stk => rw [e] at h; exact h
    | exc n ρ' => rw [e] at h; exact fun H' r' => h σ H' r'
    | ok c ρ' => rw [e] at h; exact fun v H' r' => h _ H' r'.store
end
end Sm

set_option Elab.async false
set_option linter.all false
set_option maxRecDepth 100000
set_option maxHeartbeats 1000000
/-! Sm, part L: methods that change what is owned, stores, targets. -/
namespace Sm
open PySem PySem.Spec PyProof.Rows L2

/-! ### x.m(..), x owns a list -/
/-- f: the list, the arguments; the new list, the answer -/
abbrev MutF := List D → List D → Option (List D × D)
def eMut (f : MutF) (i : Nat) (ds : List DE) : DE := fun ρ => match ρ[i]? with
  | some (.c true _ (.lst _)) => match evO (ds.map .ex) ρ with
    | .ok cs ρ' => match allD cs with
      | some xs => match ρ'[i]? with
        | some (.c true b (.lst l)) => match f l xs with
          | some (l', x) => .ok (vl x) (ρ'.set i (.c true b (.lst l')))
          | none => .stk
        | _ => .stk
      | none => .stk
    | .exc e ρ' => .exc e ρ'
    | .stk => .stk
  | _ => .stk
/-- the method's rule does what f tells -/
def MutR (G : Gam) (r : V → List V → Hp → VK → Prop) (f : MutF) : Prop := ∀ (A : Addr → Prop) (H : Hp) (p : Addr) (vs ws : List V) (l xs l' : List D) (x : D) (Q : VK),
  H p = some (.lst vs) → Reps G A H vs l → Reps G A H ws xs → f l xs = some (l', x) → (∀ v vs', Reps G A H vs' l' → Rep G A H v x → Q v (upd H p (.lst vs'))) → r (.ref p) ws H Q
section
variable {X : Cx} {G : Gam} {g : Nat → V} {W : WX} {pos : Pos} {T : Tmp} {H : Hp} {ρ : Env} {σ : L2.St}
theorem mut_tr {r : V → List V → Hp → VK → Prop} {f : MutF} {i : Nat} {ds : List DE} {Q : VK} (k : MutR G r f) (h : tE G W (eMut f i ds) σ H Q) :
    ∃ p, σ[i]? = some (some (.ref p)) ∧ (∃ vs, H p = some (.lst vs)) ∧ tOs G W (ds.map .ex) σ H fun ws H1 => r (.ref p) ws H1 Q := by
  obtain ⟨g, ρ, T, rl, h⟩ := h
  unfold eMut at h
  split at h
  · rename_i b0 l0 e0
    obtain ⟨v, ev, hm⟩ := rl.val_at e0
    obtain ⟨p, vs0, rfl, hp, _⟩ := (rl.2.view hm).lst
    refine ⟨p, ev, ⟨vs0, hp⟩, tOs_run (T := T) (ds.map .ex) ρ [] H _ rl ?_⟩
    cases e : evO (ds.map .ex) ρ with
    | stk => rw [e] at h; exact h
    | exc n ρ' => rw [e] at h; exact h
    | ok cs ρ' =>
      rw [e] at h
      intro ws H' M r' a
      simp only at h
      cases q : allD cs with
      | none => rw [q] at h; exact h.elim
      | some xs =>
        rw [q] at h
        simp only at h
        split at h
        · rename_i b l e1
          split at h
          · rename_i l' x e2
            have r2 : RelL G g (M ++ (ρ'.zip σ ++ T)) H' := by
              refine r'.2.perm ?_
              show (ρ'.zip σ ++ (M ++ T)).Perm _
              rw [← List.append_assoc, ← List.append_assoc]
              exact List.Perm.append_right _ List.perm_append_comm
            obtain ⟨r1, ks⟩ := frozen a q r2
            obtain ⟨L, q1, q2⟩ := zip_take e1 ev
            have q1 := q1.append_right T
            have r4 := r1.perm q1
            obtain ⟨_, vs, hv, kl⟩ := r4.ok _ List.mem_cons_self
            have eo : ∀ l, owns ((Cell.c true b (.lst l), some (V.ref p)) :: (L ++ T)) = p :: owns (L ++ T) := fun l => by rw [owns_cons]; rfl
            have n1 : ∀ a u, H' a = some u → ¬ (a ∈ owns ((Cell.c true b (.lst l), some (V.ref p)) :: (L ++ T))) → H' a = some u ∧ ¬ (a = p ∨ a ∈ owns (L ++ T)) := fun a u h n => ⟨h, fun z => n (by rw [eo]; exact List.mem_cons.mpr z)⟩
            have kl := kl.mono n1
            have ks := ks.mono fun a u h n => n1 a u h fun z => n ((owns_perm q1).mem_iff.mpr z)
            refine k _ _ _ _ _ _ _ _ _ _ hv kl ks e2 fun v vs' kl' kx => ?_
            have n2 : ∀ a u, H' a = some u → ¬ (a = p ∨ a ∈ owns (L ++ T)) → upd H' p (.lst vs') a = some u ∧ ¬ (a = p ∨ a ∈ owns (L ++ T)) := fun a u h n => ⟨by rw [upd_ne (fun z => n (.inl z))]; exact h, n⟩
            have r5 := r4.mut (d' := .lst l') (o := .lst vs') ⟨vs', upd_same, kl'.mono n2⟩
            refine h v _ ⟨by rw [List.length_set]; exact r'.1, RelL.perm (mid_perm _ _ _).symm ?_⟩
            refine RelL.push (r5.perm ((q2 _).append_right T).symm) ((kx.mono n2).mono fun a u h n => ⟨h, fun z => n ?_⟩)
            have z := (owns_perm ((q2 (.c true b (.lst l'))).append_right T)).mem_iff.mp z
            rw [List.cons_append, eo] at z
            exact List.mem_cons.mp z
          · exact h.elim
        · exact h.elim
  · exact h.elim
theorem se_mut {id : String} {name : Str} {o e : Expr} {es : List Expr} {apos cpos : Pos} {r : V → List V → Hp → VK → Prop} {f : MutF} {i : Nat} {ds : List DE} {d : DE} (k : MutR G r f) (slot : Slot "list" name id) (hty : typeOf (.builtin id) = pure (.type "method_descriptor")) (hm : MtR X id r)
    (ho : PE X o (tVar i)) (ha : PA X (e :: es) (tOs G W ((d :: ds).map .ex)))
    (hbase : attributeBase o name X.env (eval o X.env) = eval o X.env := by rfl)
    (hfew : ((backTo cpos (starEach (e :: es) X.env)).all (fun x => !x.1) && (backToKw cpos (keywordEach [] X.env)).all (fun x => x.1.isSome)
      && decide ((e :: es).length + ([] : List Keyword).length + (if ([] : List Keyword).isEmpty then 0 else 1) < 30)) = true := by rfl)
    (hline : (apos.endLine == cpos.line) = true := by rfl) (hs : starEach (e :: es) X.env = (false, eval e X.env) :: starEach es X.env := by rfl) (hplain : (backTo cpos (starEach es X.env)).any (·.1) = false := by rfl) :
    PE X (.Call (.Attribute o name apos) (e :: es) [] cpos) (tE G W (eMut f i (d :: ds))) :=
  (pe_bm PySem.F.plainAttrs_list slot hty hm ho ha hbase hfew hline hs hplain).weak fun σ H Q h => by
    obtain ⟨p, ev, ⟨vs, hv⟩, h⟩ := mut_tr k h
    exact ⟨_, ev, .inl ⟨rfl, _, SqL.of hv⟩, h⟩
theorem se_mut0 {id : String} {name : Str} {o : Expr} {apos cpos : Pos} {r : V → List V → Hp → VK → Prop} {f : MutF} {i : Nat} (k : MutR G r f) (slot : Slot "list" name id) (hty : typeOf (.builtin id) = pure (.type "method_descriptor")) (hm : MtR X id r)
    (ho : PE X o (tVar i))
    (hbase : attributeBase o name X.env (eval o X.env) = eval o X.env := by rfl) (hline : (apos.endLine == cpos.line) = true := by rfl) :
    PE X (.Call (.Attribute o name apos) [] [] cpos) (tE G W (eMut f i [])) :=
  (pe_bm0 PySem.F.plainAttrs_list slot hty hm ho hbase hline).weak fun σ H Q h => by
    obtain ⟨p, ev, ⟨vs, hv⟩, h⟩ := mut_tr k h
    exact ⟨_, ev, .inl ⟨rfl, _, SqL.of hv⟩, h⟩
end
def mAppend : MutF
  | l, [x] => if l.length < SZ then some (l ++ [x], .non) else none
  | _, _ => none
def mPop : MutF
  | l, [] => match l[l.length - 1]? with
    | some x => some (l.dropLast, x)
    | none => none
  | _, _ => none
def mPopAt : MutF
  | l, [.int i] => if decide (-(2 ^ 63) ≤ i) && decide (i < 2 ^ 63) then match seqIndex? i l.length with
      | some k => match l[k]? with
        | some x => some (l.eraseIdx k, x)
        | none => none
      | none => none
    else none
  | _, _ => none
def mExtend : MutF
  | l, [.lst xs] => if l.length + xs.length ≤ SZ then some (l ++ xs, .non) else none
  | _, _ => none
def mReverse : MutF
  | l, [] => some (l.reverse, .non)
  | _, _ => none
def mClear : MutF
  | l, [] => some ([], .non)
  | _, _ => none
section
variable {X : Cx} {G : Gam} {g : Nat → V} {W : WX} {pos : Pos} {o e : Expr} {es : List Expr} {apos cpos : Pos} {i : Nat} {d : DE}
theorem Reps.dropLast {A : Addr → Prop} {H : Hp} {vs : List V} {ds : List D} (h : Reps G A H vs ds) : Reps G A H vs.dropLast ds.dropLast := by
  rw [List.dropLast_eq_take, List.dropLast_eq_take, h.length]
  exact h.take _
theorem k_append : MutR G rAppend mAppend := fun A H p vs ws l xs l' x Q hp kl kx e q => by
  unfold mAppend at e
  split at e
  · rename_i y
    split at e
    · rename_i hz
      cases e
      cases kx with
      | cons k n =>
        cases n
        exact ⟨p, vs, _, rfl, rfl, hp, by rw [kl.length, ← SZ_eq]; exact hz, q _ _ (kl.append (.one k)) .non⟩
    · cases e
  · cases e
theorem k_pop : MutR G rPop mPop := fun A H p vs ws l xs l' x Q hp kl kx e q => by
  unfold mPop at e
  split at e
  · split at e
    · rename_i y hy
      cases e
      cases kx
      obtain ⟨v, hv, rv⟩ := kl.get hy
      rw [← kl.length] at hv
      exact ⟨p, vs, v, rfl, rfl, hp, hv, q _ _ kl.dropLast rv⟩
    · cases e
  · cases e
theorem k_popAt : MutR G rPopAt mPopAt := fun A H p vs ws l xs l' x Q hp kl kx e q => by
  unfold mPopAt at e
  split at e
  · split at e
    · rename_i hb
      rw [Bool.and_eq_true, decide_eq_true_eq, decide_eq_true_eq] at hb
      split at e
      · rename_i k hk
        split at e
        · rename_i y hy
          cases e
          cases kx with
          | cons a n =>
            cases n
            cases a
            obtain ⟨v, hv, rv⟩ := kl.get hy
            exact ⟨p, vs, _, k, v, rfl, rfl, hp, hb.1, hb.2, by rw [kl.length]; exact hk, hv, q _ _ (kl.eraseIdx k) rv⟩
        · cases e
      · cases e
    · cases e
  · cases e
theorem k_extend : MutR G rExtend mExtend := fun A H p vs ws l xs l' x Q hp kl kx e q => by
  unfold mExtend at e
  split at e
  · split at e
    · rename_i hz
      cases e
      cases kx with
      | cons k n =>
        cases n
        cases k with
        | lst hq ks => exact ⟨p, _, vs, _, rfl, rfl, hp, hq.1, by rw [kl.length, ks.length, ← SZ_eq]; exact hz, q _ _ (kl.append ks) .non⟩
    · cases e
  · cases e
theorem k_reverse : MutR G rReverse mReverse := fun A H p vs ws l xs l' x Q hp kl kx e q => by
  unfold mReverse at e
  split at e
  · cases e; cases kx
    exact ⟨p, vs, rfl, rfl, hp, q _ _ kl.reverse .non⟩
  · cases e
theorem k_clear : MutR G rClear mClear := fun A H p vs ws l xs l' x Q hp kl kx e q => by
  unfold mClear at e
  split at e
  · cases e; cases kx
    exact ⟨p, vs, rfl, rfl, hp, q _ _ .nil .non⟩
  · cases e
theorem se_append (ho : PE X o (tVar i)) (ha : PE X e (tE G W d)) (hbase : attributeBase o "append" X.env (eval o X.env) = eval o X.env := by rfl)
    (h1 : starEach [e] X.env = (false, eval e X.env) :: starEach [] X.env := by rfl)
    (hfew : ((backTo cpos (starEach [e] X.env)).all (fun x => !x.1) && (backToKw cpos (keywordEach [] X.env)).all (fun x => x.1.isSome)
      && decide (([e] : List Expr).length + ([] : List Keyword).length + (if ([] : List Keyword).isEmpty then 0 else 1) < 30)) = true := by rfl)
    (hline : (apos.endLine == cpos.line) = true := by rfl) (hplain : (backTo cpos (starEach [] X.env)).any (·.1) = false := by rfl) : PE X (.Call (.Attribute o "append" apos) [e] [] cpos) (tE G W (eMut mAppend i [d])) :=
  se_mut k_append PySem.F.slot_list_append PySem.F.type_list_append mt_append ho (as_ex ha as_ex_nil h1) hbase hfew hline h1 hplain
theorem se_pop (ho : PE X o (tVar i)) (hbase : attributeBase o "pop" X.env (eval o X.env) = eval o X.env := by rfl) (hline : (apos.endLine == cpos.line) = true := by rfl) : PE X (.Call (.Attribute o "pop" apos) [] [] cpos) (tE G W (eMut mPop i [])) :=
  se_mut0 k_pop PySem.F.slot_list_pop PySem.F.type_list_pop mt_pop ho hbase hline
theorem se_popAt (ho : PE X o (tVar i)) (ha : PE X e (tE G W d)) (hbase : attributeBase o "pop" X.env (eval o X.env) = eval o X.env := by rfl)
    (h1 : starEach [e] X.env = (false, eval e X.env) :: starEach [] X.env := by rfl)
    (hfew : ((backTo cpos (starEach [e] X.env)).all (fun x => !x.1) && (backToKw cpos (keywordEach [] X.env)).all (fun x => x.1.isSome)
      && decide (([e] : List Expr).length + ([] : List Keyword).length + (if ([] : List Keyword).isEmpty then 0 else 1) < 30)) = true := by rfl)
    (hline : (apos.endLine == cpos.line) = true := by rfl) (hplain : (backTo cpos (starEach [] X.env)).any (·.1) = false := by rfl) : PE X (.Call (.Attribute o "pop" apos) [e] [] cpos) (tE G W (eMut mPopAt i [d])) :=
  se_mut k_popAt PySem.F.slot_list_pop PySem.F.type_list_pop mt_popAt ho (as_ex ha as_ex_nil h1) hbase hfew hline h1 hplain
theorem se_extend (ho : PE X o (tVar i)) (ha : PE X e (tE G W d)) (hbase : attributeBase o "extend" X.env (eval o X.env) = eval o X.env := by rfl)
    (h1 : starEach [e] X.env = (false, eval e X.env) :: starEach [] X.env := by rfl)
    (hfew : ((backTo cpos (starEach [e] X.env)).all (fun x => !x.1) && (backToKw cpos (keywordEach [] X.env)).all (fun x => x.1.isSome)
      && decide (([e] : List Expr).length + ([] : List Keyword).length + (if ([] : List Keyword).isEmpty then 0 else 1) < 30)) = true := by rfl)
    (hline : (apos.endLine == cpos.line) = true := by rfl) (hplain : (backTo cpos (starEach [] X.env)).any (·.1) = false := by rfl) : PE X (.Call (.Attribute o "extend" apos) [e] [] cpos) (tE G W (eMut mExtend i [d])) :=
  se_mut k_extend PySem.F.slot_list_extend PySem.F.type_list_extend mt_extend ho (as_ex ha as_ex_nil h1) hbase hfew hline h1 hplain
end
/-! ### x[k] = e, x owns a list -/
def sSetIx (i : Nat) (dk de : DE) : DS := fun ρ => match de ρ with
  | .ok (.c _ _ x) ρ1 => match ρ1[i]? with
    | some (.c true _ (.lst _)) => match dk ρ1 with
      | .ok (.c _ _ (.int k)) ρ2 => match ρ2[i]? with
        | some (.c true b (.lst l)) => match ixN l.length k with
          | some j => .nx (ρ2.set i (.c true b (.lst (l.set j x))))
          | none => .stk
        | _ => .stk
      | .ok _ _ => .stk
      | .exc n ρ2 => .exc n ρ2
      | .stk => .stk
    | _ => .stk
  | .ok .emp _ => .stk
  | .exc n ρ1 => .exc n ρ1
  | .stk => .stk
section
variable {X : Cx} {G : Gam} {g : Nat → V} {W : WX} {pos : Pos} {T : Tmp} {H : Hp} {ρ : Env} {σ : L2.St} {i : Nat} {de dk : DE}
theorem ss_setIx {o ix e : Expr} {tpos : Pos} (ho : PE X o (tVar i)) (hi : PE X ix (tE G W dk)) (he : PE X e (tE G W de)) (hs : swapsWithSole [.Subscript o ix tpos] e pos.line X.env = pure false := by rfl) (hw : swappedStores [.Subscript o ix tpos] e X.env = pure none := by rfl)
    (h1 : (assignEach [.Subscript o ix tpos] X.env).map (·.2) = [assign (.Subscript o ix tpos) X.env] := by rfl)
    (ha : ∀ v, assign (.Subscript o ix tpos) X.env v = (do
      let ov ← holding [v] (eval o X.env)
      let iv ← holding [v, ov] (eval ix X.env)
      standAt tpos
      holding [v, ov, iv] (setItem ov iv v)
      release [v, ov, iv] []) := by intro _; rfl) : PS X (.Assign [.Subscript o ix tpos] e pos) (tS G W (sSetIx i dk de)) :=
  (ps_asg he (pg_sub ho hi set_list ha) hs hw h1).weak fun E σ H ⟨g, ρ, T, r, h⟩ => by
    refine ⟨g, ρ, T, r, ?_⟩
    unfold sSetIx at h
    cases e : de ρ with
    | stk => rw [e] at h; exact h
    | exc n ρ' => rw [e] at h; exact fun H' r' => h σ H' r'
    | ok c ρ1 =>
      rw [e] at h
      cases c with
      | emp => exact h.elim
      | c o b0 x =>
        intro v H1 r1
        simp only at h
        split at h
        · rename_i b1 l1 e1
          obtain ⟨w, ew, hm⟩ := r1.val_at e1
          obtain ⟨p, vs0, rfl, hp, _⟩ := (r1.2.view hm).lst
          refine ⟨.ref p, ew, g, ρ1, _, r1, ?_⟩
          cases e2 : dk ρ1 with
          | stk => rw [e2] at h; exact h.elim
          | exc n ρ2 => rw [e2] at h; exact fun H' r' => h σ H' r'.pop
          | ok c ρ2 =>
            rw [e2] at h
            cases c with
            | emp => exact h.elim
            | c o2 b2 y =>
              cases y with
              | int k =>
                intro vk H2 r2
                have := int_of r2; subst this
                simp only at h
                split at h
                · rename_i b l e3
                  split at h
                  · rename_i j hj
                    have r3 := r2.pop
                    obtain ⟨L, q1, q2⟩ := zip_take e3 ew
                    have r4 : RelL G g ((.c o b0 x, some v) :: ((.c true b (.lst l), some (.ref p)) :: (L ++ T))) H2 := by
                      refine r3.2.perm ?_
                      refine (mid_perm _ _ _).trans (List.Perm.cons _ ?_)
                      exact q1.append_right T
                    have r5 := r4.val
                    have rx := r5.rep
                    have r6 := r5.tail
                    obtain ⟨_, vs, hv, kl⟩ := r6.ok _ List.mem_cons_self
                    have eo : ∀ l, owns ((Cell.c true b (.lst l), some (V.ref p)) :: (L ++ T)) = p :: owns (L ++ T) := fun l => by rw [owns_cons]; rfl
                    have n2 : ∀ vs' a u, H2 a = some u → ¬ (a ∈ owns ((Cell.c true b (.lst l), some (V.ref p)) :: (L ++ T))) → upd H2 p (.lst vs') a = some u ∧ ¬ (a = p ∨ a ∈ owns (L ++ T)) := fun vs' a u h n => by
                      rw [eo] at n
                      have hn : a ≠ p := fun z => n (by rw [z]; exact List.mem_cons_self)
                      exact ⟨by rw [upd_ne hn]; exact h, fun z => n (List.mem_cons.mpr z)⟩
                    refine ⟨p, vs, k, j, rfl, rfl, hv, by rw [kl.length]; exact hj, h _ _ ⟨by rw [List.length_set]; exact r3.1, ?_⟩⟩
                    refine (r6.mut (d' := .lst (l.set j x)) (o := .lst (vs.set j v)) ⟨_, upd_same, (kl.set j rx).mono (n2 _)⟩).perm ?_
                    exact ((q2 _).append_right T).symm
                  · exact h.elim
                · exact h.elim
              | _ => exact h.elim
        · exact h.elim
end
/-! ### x op= e, ints -/
def sAugI (f : Int → Int → Int) (i : Nat) (de : DE) : DS := fun ρ => match ρ[i]? with
  | some (.c _ _ (.int a)) => match de ρ with
    | .ok (.c _ _ (.int b)) ρ1 => .nx (ρ1.set i (vl (.int (f a b))))
    | .ok _ _ => .stk
    | .exc n ρ1 => .exc n ρ1
    | .stk => .stk
  | _ => .stk
section
variable {X : Cx} {G : Gam} {g : Nat → V} {W : WX} {pos : Pos} {T : Tmp} {H : Hp} {ρ : Env} {σ : L2.St} {i : Nat} {de dk : DE}
theorem ss_augI {f : Int → Int → Int} {x : Str} {e : Expr} {op : Operator} {pos' : Pos} (hN : X.N.Nodup) (hi : X.N[i]? = some x) (hx : Loc X.env.scope x) (he : PE X e (tE G W de)) (ho : PIp X op (ipI f)) (hf : X.fn x = true ∨ X.env.scope.names.lookup x = some .local := by first | exact .inl rfl | exact .inr rfl | assumption) :
    PS X (.AugAssign (.Name x pos') op e pos) (tS G W (sAugI f i de)) :=
  (ps_aug hN hi hx he ho hf).weak fun E σ H ⟨g, ρ, T, r, h⟩ => by
    unfold sAugI at h
    split at h
    · rename_i o b a e1
      obtain ⟨w, ew, hm⟩ := r.val_at e1
      have := (r.2.view hm).int
      subst this
      refine ⟨_, ew, g, ρ, T, r, ?_⟩
      cases e2 : de ρ with
      | stk => rw [e2] at h; exact h
      | exc n ρ' => rw [e2] at h; exact fun H' r' => h σ H' r'
      | ok c ρ1 =>
        rw [e2] at h
        cases c with
        | emp => exact h.elim
        | c o b x =>
          cases x with
          | int k =>
            intro v H1 r1
            have := int_of r1; subst this
            exact ⟨a, k, rfl, rfl, h _ H1 (Rel.store (r1.pop.push (.int _)))⟩
          | _ => exact h.elim
    · exact h.elim
end
/-! ### (a, b, ..) = x, where x keeps what it owns -/
def sUnp (is : List Nat) (o : Opd) : DS := fun ρ => match evD [o] ρ with
  | .ok [.tup ds] ρ1 => match setAll is ds ρ1 with
    | some ρ2 => .nx ρ2
    | none => .stk
  | .ok [.lst ds] ρ1 => match setAll is ds ρ1 with
    | some ρ2 => .nx ρ2
    | none => .stk
  | .ok _ _ => .stk
  | .exc n ρ1 => .exc n ρ1
  | .stk => .stk
section
variable {X : Cx} {G : Gam} {g : Nat → V} {W : WX} {pos : Pos} {T : Tmp} {H : Hp} {ρ : Env} {σ : L2.St} {i : Nat} {o : Opd}
theorem evD_one {Q : VK} (r : Rel G g ρ σ T H) (h : match evD [o] ρ with | .ok ds ρ1 => ∃ d, ds = [d] ∧ ∀ v H' M, Rel G g ρ1 σ (M ++ T) H' → View G (· ∈ owns (ρ1.zip σ ++ (M ++ T))) H' v d → Q v H' | .exc n ρ1 => ∀ H', Rel G g ρ1 σ T H' → W (.ref (G.cls n)) none σ H' | .stk => False) : tO G W o σ H Q := by
  cases o with
  | nm i =>
    unfold evD evO at h
    cases e : ρ[i]? with
    | none => rw [e] at h; exact h.elim
    | some c =>
      rw [e] at h
      cases c with
      | emp => exact h.elim
      | c o b d =>
        obtain ⟨v, ev, hm⟩ := r.val_at e
        simp only [evO, lookO, e] at h
        obtain ⟨d', hd, q⟩ := h
        cases hd
        exact ⟨v, ev, q v H [] r (r.2.view hm)⟩
  | ex de =>
    refine ⟨g, ρ, T, r, ?_⟩
    unfold evD evO at h
    cases e : de ρ with
    | stk => rw [e] at h; exact h
    | exc n ρ1 => rw [e] at h; exact h
    | ok c ρ1 =>
      rw [e] at h
      intro v H1 r1
      cases c with
      | emp => simp only [evO, lookO] at h
      | c o b d =>
        simp only [evO, lookO] at h
        obtain ⟨d', hd, q⟩ := h
        cases hd
        exact q v H1 [(_, some v)] r1 (r1.2.view (List.mem_append_right _ List.mem_cons_self))
def tGv (G : Gam) (is : List Nat) : TG := fun v σ H Q => ∃ g ρ T ds, Rel G g ρ σ T H ∧ (View G (· ∈ owns (ρ.zip σ ++ T)) H v (.tup ds) ∨ View G (· ∈ owns (ρ.zip σ ++ T)) H v (.lst ds)) ∧ ∃ ρ', setAll is ds ρ = some ρ' ∧ ∀ σ' H', Rel G g ρ' σ' T H' → Q σ' H'
theorem sg_tv {es : List Expr} {is : List Nat} {k : Nat} (K : X.K = G.K) (hc : X.calm = true) (h : SGs X G es is) (hn : (assignEach es X.env).length = is.length := by rfl) (hst : (assignEach es X.env).findIdx? (·.1) = none := by rfl) : PG X (.Tuple es k pos) (tGv G is) := by
  obtain ⟨⟨gs, h1, h2⟩, hl⟩ := h
  refine ((pg_tup hc h1 hn hst).or (pg_unl hc h1 hn hst)).weak fun v σ H Q ⟨g, ρ, T, ds, r, w, ρ', e, q⟩ => ?_
  rcases w with w | w
  · obtain ⟨a, vs, rfl, s, ks⟩ := w.tup
    exact .inl ⟨a, vs, rfl, K ▸ s, by rw [ks.length]; exact setAll_len e, h2 g ρ σ T H vs ds ρ' Q r ks e fun σ' rr bb => q σ' H rr⟩
  · obtain ⟨a, vs, rfl, s, ks⟩ := w.lst
    exact .inr ⟨a, vs, rfl, SqL.of s, by rw [ks.length]; exact setAll_len e, h2 g ρ σ T H vs ds ρ' Q r ks e fun σ' rr bb => q σ' H rr⟩
theorem ss_unp {es : List Expr} {is : List Nat} {k : Nat} {e : Expr} {tpos : Pos} (K : X.K = G.K) (hc : X.calm = true) (h : SGs X G es is) (he : PE X e (tO G W o)) (hn : (assignEach es X.env).length = is.length := by rfl) (hst : (assignEach es X.env).findIdx? (·.1) = none := by rfl)
    (hs : swapsWithSole [.Tuple es k tpos] e pos.line X.env = pure false := by rfl) (hw : swappedStores [.Tuple es k tpos] e X.env = pure none := by rfl)
    (h1 : (assignEach [.Tuple es k tpos] X.env).map (·.2) = [assign (.Tuple es k tpos) X.env] := by rfl) : PS X (.Assign [.Tuple es k tpos] e pos) (tS G W (sUnp is o)) :=
  (ps_asg he (sg_tv K hc h hn hst) hs hw h1).weak fun E σ H ⟨g, ρ, T, r, h⟩ => by
    refine evD_one r ?_
    unfold sUnp at h
    cases e : evD [o] ρ with
    | stk => rw [e] at h; exact h
    | exc n ρ1 => rw [e] at h; exact fun H' r' => h σ H' r'
    | ok ds ρ1 =>
      rw [e] at h
      simp only at h
      split at h
      · rename_i xs h1
        cases h1
        split at h
        · rename_i ρ2 h2
          exact ⟨_, rfl, fun v H' M r' w => ⟨g, ρ1, M ++ T, _, r', .inl w, ρ2, h2, fun σ' H2 r2 => h σ' H2 r2.dropM⟩⟩
        · exact h.elim
      · rename_i xs h1
        cases h1
        split at h
        · rename_i ρ2 h2
          exact ⟨_, rfl, fun v H' M r' w => ⟨g, ρ1, M ++ T, _, r', .inr w, ρ2, h2, fun σ' H2 r2 => h σ' H2 r2.dropM⟩⟩
        · exact h.elim
      · exact h.elim
      · rename_i h1; cases h1
      · rename_i h1; cases h1
end
/-! ### a, b = x, y with plain local names -/
def unO : Option Cell → Cell
  | some c => un c
  | none => .emp
def sPar2 (i j : Nat) (d1 d2 : DE) : DS := fun ρ => match d1 ρ with
  | .ok c1 ρ1 => match d2 ρ1 with
    | .ok c2 ρ2 => .nx ((ρ2.set i (un c1)).set j (un c2))
    | .exc n ρ2 => .exc n ρ2
    | .stk => .stk
  | .exc n ρ1 => .exc n ρ1
  | .stk => .stk
def sPar3 (i j l : Nat) (d1 d2 d3 : DE) : DS := fun ρ => match d1 ρ with
  | .ok c1 ρ1 => match d2 ρ1 with
    | .ok c2 ρ2 => match d3 ρ2 with
      | .ok c3 ρ3 => .nx (((ρ3.set i (un c1)).set j (un c2)).set l (un c3))
      | .exc n ρ3 => .exc n ρ3
      | .stk => .stk
    | .exc n ρ2 => .exc n ρ2
    | .stk => .stk
  | .exc n ρ1 => .exc n ρ1
  | .stk => .stk
section
variable {X : Cx} {G : Gam} {g : Nat → V} {W : WX} {pos : Pos} {T : Tmp} {H : Hp} {ρ : Env} {σ : L2.St} {d1 d2 d3 : DE}
theorem Rel.swapT {p q : Cell × Option V} (r : Rel G g ρ σ (p :: q :: T) H) : Rel G g ρ σ (q :: p :: T) H := ⟨r.1, r.2.perm (List.Perm.append_left _ (List.Perm.swap ..))⟩
theorem ss_par2 {i j : Nat} {x y : Str} {a b : Expr} {px py pt : Pos} {kt k2 pt2} (hc : X.calm = true) (hN : X.N.Nodup) (hi : X.N[i]? = some x) (hj : X.N[j]? = some y) (hij : i ≠ j)
    (hx : X.env.scope.names.lookup x = some .local) (hy : X.env.scope.names.lookup y = some .local) (ha : PE X a (tE G W d1)) (hb : PE X b (tE G W d2))
    (hw : swappedStores [.Tuple [.Name x px, .Name y py] kt pt] (.Tuple [a, b] k2 pt2) X.env = pure (some [x, y]))
    (hs : swapsWithSole [.Tuple [.Name x px, .Name y py] kt pt] (.Tuple [a, b] k2 pt2) pos.line X.env = pure false := by rfl)
    (h1 : starEach [a, b] X.env = (false, eval a X.env) :: starEach [b] X.env := by rfl) (h2 : starEach [b] X.env = (false, eval b X.env) :: starEach [] X.env := by rfl) :
    PS X (.Assign [.Tuple [.Name x px, .Name y py] kt pt] (.Tuple [a, b] k2 pt2) pos) (tS G W (sPar2 i j d1 d2)) :=
  (ps_par hc hN hi hj hij hx hy (pa_cons ha (pa_cons hb pa_nil h2) h1) hw hs).weak fun E σ H ⟨g, ρ, T, r, h⟩ => by
    refine ⟨g, ρ, T, r, ?_⟩
    unfold sPar2 at h
    cases e : d1 ρ with
    | stk => rw [e] at h; exact h
    | exc n ρ1 => rw [e] at h; exact fun H' r' => h σ H' r'
    | ok c1 ρ1 =>
      rw [e] at h
      intro v1 H1 r1
      refine ⟨g, ρ1, _, r1, ?_⟩
      simp only at h
      cases e2 : d2 ρ1 with
      | stk => rw [e2] at h; exact h.elim
      | exc n ρ2 => rw [e2] at h; exact fun H' r' => h σ H' r'.pop
      | ok c2 ρ2 =>
        rw [e2] at h
        intro v2 H2 r2
        exact ⟨v1, v2, rfl, h _ H2 (Rel.store (Rel.store (Rel.swapT r2)))⟩
theorem ss_par3 {i j l : Nat} {x y z : Str} {a b c : Expr} {px py pz pt : Pos} {kt k2 pt2} (hc : X.calm = true) (hN : X.N.Nodup) (hi : X.N[i]? = some x) (hj : X.N[j]? = some y) (hl : X.N[l]? = some z) (hij : i ≠ j) (hil : i ≠ l) (hjl : j ≠ l)
    (hx : X.env.scope.names.lookup x = some .local) (hy : X.env.scope.names.lookup y = some .local) (hz : X.env.scope.names.lookup z = some .local) (ha : PE X a (tE G W d1)) (hb : PE X b (tE G W d2)) (hcc : PE X c (tE G W d3))
    (hw : swappedStores [.Tuple [.Name x px, .Name y py, .Name z pz] kt pt] (.Tuple [a, b, c] k2 pt2) X.env = pure (some [x, y, z]))
    (hs : swapsWithSole [.Tuple [.Name x px, .Name y py, .Name z pz] kt pt] (.Tuple [a, b, c] k2 pt2) pos.line X.env = pure false := by rfl)
    (h1 : starEach [a, b, c] X.env = (false, eval a X.env) :: starEach [b, c] X.env := by rfl) (h2 : starEach [b, c] X.env = (false, eval b X.env) :: starEach [c] X.env := by rfl) (h3 : starEach [c] X.env = (false, eval c X.env) :: starEach [] X.env := by rfl) :
    PS X (.Assign [.Tuple [.Name x px, .Name y py, .Name z pz] kt pt] (.Tuple [a, b, c] k2 pt2) pos) (tS G W (sPar3 i j l d1 d2 d3)) :=
  (ps_par3 hc hN hi hj hl hij hil hjl hx hy hz (pa_cons ha (pa_cons hb (pa_cons hcc pa_nil h3) h2) h1) hw hs).weak fun E σ H ⟨g, ρ, T, r, h⟩ => by
    refine ⟨g, ρ, T, r, ?_⟩
    unfold sPar3 at h
    cases e : d1 ρ with
    | stk => rw [e] at h; exact h
    | exc n ρ1 => rw [e] at h; exact fun H' r' => h σ H' r'
    | ok c1 ρ1 =>
      rw [e] at h
      intro v1 H1 r1
      refine ⟨g, ρ1, _, r1, ?_⟩
      simp only at h
      cases e2 : d2 ρ1 with
      | stk => rw [e2] at h; exact h.elim
      | exc n ρ2 => rw [e2] at h; exact fun H' r' => h σ H' r'.pop
      | ok c2 ρ2 =>
        rw [e2] at h
        intro v2 H2 r2
        refine ⟨g, ρ2, _, r2, ?_⟩
        simp only at h
        cases e3 : d3 ρ2 with
        | stk => rw [e3] at h; exact h.elim
        | exc n ρ3 => rw [e3] at h; exact fun H' r' => h σ H' r'.pop.pop
        | ok c3 ρ3 =>
          rw [e3] at h
          intro v3 H3 r3
          refine ⟨v1, v2, v3, rfl, h _ H3 (Rel.store (Rel.store (Rel.store ?_)))⟩
          refine ⟨r3.1, r3.2.perm (List.Perm.append_left _ ?_)⟩
          exact ((List.Perm.swap ..).trans (List.Perm.cons _ (List.Perm.swap ..))).trans (List.Perm.swap ..)
end
end Sm

set_option Elab.async false
set_option linter.all false
set_option maxRecDepth 100000
set_option maxHeartbeats 1000000
/-! Sm, part M: words for the printed texts. -/
namespace Sm
open PySem PySem.Spec PyProof.Rows L2

abbrev GG (K : PySem.W.Frag) (cl : Nat → Addr) : Gam := ⟨K, none, cl, []⟩
/-- the six classes of errors -/
def cls6 (a0 a1 a2 a3 a4 a5 : Addr) : Nat → Addr
  | 0 => a0 | 1 => a1 | 2 => a2 | 3 => a3 | 4 => a4 | _ => a5
structure ErrK (K : PySem.W.Frag) (mg : Str → Option Value) (x : Str) (C : Addr) : Prop where
  gC : mg x = some (.ref C)
  q : PySem.W.excIn K C [.type "ValueError", .type "Exception", .type "BaseException", .type "object"] "ValueError.__new__" = true
  kC : PySem.W.keepIn K (.ref C) = true
  r1 : PySem.W.subIn K (.ref C) (.type "BaseException") = some true
  r2 : PySem.W.typeIn K (.ref C) = some (.type "type")
structure DefK (K : PySem.W.Frag) (mg : Str → Option Value) (x : Str) (st : Stmt) (f : Addr) (fd : FuncData) (ps : List Str) : Prop where
  F : L2.Fun K x x st f fd
  b : Binds K fd ps []
  g : mg x = some (.ref f)
section
variable {X : Cx} {G : Gam} {W : WX} {pos : Pos}
theorem ErrK.at {x : Str} {C : Addr} (e : ErrK X.K X.mg x C) : ErrC X x C := ⟨e.gC, e.q, e.kC, e.r1, e.r2⟩
theorem tkF : L2N.Takes X WF0 := fun u s' ⟨a, B, sI, pins, σ, H, cls, d, e, I, nb, up, sky, na, os, ag, w⟩ => w.elim
theorem hu64 {k : Nat} {A : Around} (hr : Room k A) : A.units + 64 < cLine := by have := hr.un; omega
theorem hu64H {k : Nat} {A : Around} (hr : L2H.RoomH k A) : A.units + 64 < cLine := by have := hr.un; omega
theorem pe_tyB {x : Str} {T : String} (hg : Gl X x) (hm : X.mg x = none) (hv : bootBuiltins x = some (.type T)) (hn : x ≠ "__name__" := by decide) (hd : (x == ("__debug__" : Str)) = false := by decide) : PE X (.Name x pos) (tC (.ty T)) :=
  pe_bltn hg hm hv rfl hn hd
theorem pe_clsE {x : Str} {C : Addr} (hg : Gl X x) (e : ErrK X.K X.mg x C) (hd : (x == ("__debug__" : Str)) = false := by decide) : PE X (.Name x pos) (tC (.ref C)) := pe_glob hg e.gC rfl hd
theorem roomH {k : Nat} {A : Around} {v : Option Value} (hr : Room k A) : L2H.RoomH k (A.mark v) := ⟨hr.dp, hr.un⟩
theorem hot_suite {A : Around} {a : Addr} {oe : Obj} {c : Value} {d : Option Addr} (hz : L2N.Zn c d oe) (hf : ∃ vs, oe.data = .fields vs) : L2H.Hot1 (A.mark (some (.ref a))) (a, oe) := by
  obtain ⟨_, _, hc⟩ := hz
  obtain ⟨vs, hv⟩ := hf
  refine ⟨rfl, vs, hv, ?_⟩
  exact hc vs hv
/-- a list walked, calm or hot -/
def iLst (d : DE) : DI := fun ρ => match d ρ with
  | .ok (.c _ _ (.lst ds)) ρ' => .ok ds ρ'
  | .ok (.c _ _ (.frl ds)) ρ' => .ok ds ρ'
  | .ok _ _ => .stk
  | .exc e ρ' => .exc e ρ'
  | .stk => .stk
theorem si_listQ {tg iter : Expr} {da : DE} (K : X.K = G.K) (h : PE X iter (tE G W da)) : PIQ Qt X tg iter (tI G W (iLst da)) :=
  (piq_list h).weak fun σ H R ⟨g, ρ, T, r, h⟩ => by
    refine ⟨g, ρ, T, r, ?_⟩
    unfold iLst at h
    cases e : da ρ with
    | stk => rw [e] at h; exact h
    | exc n ρ' => rw [e] at h; exact h
    | ok c ρ' =>
      rw [e] at h
      cases c with
      | emp => exact h.elim
      | c o b d =>
        intro v H' r'
        have w := r'.2.view (List.mem_append_right _ List.mem_cons_self)
        cases d with
        | lst ds =>
          obtain ⟨a, vs, rfl, s, ks⟩ := w.lst
          exact ⟨a, rfl, ⟨vs, SqL.of s⟩, h _ [_] H' r' (fun M => src_list K (.inl rfl))⟩
        | frl ds =>
          obtain ⟨a, vs, rfl, s, ks⟩ := w.frl
          exact ⟨a, rfl, ⟨vs, K ▸ s⟩, h _ [_] H' r' (fun M => src_list K (.inr rfl))⟩
        | _ => exact h.elim
end
end Sm

set_option Elab.async false
set_option linter.all false
set_option maxRecDepth 100000
set_option maxHeartbeats 1000000
/-! Sm, part N: a, b, .. = x, y, .. into any names; the tuple is not tracked. -/
namespace Sm
open PySem PySem.Spec PyProof.Rows L2
section
variable {X : Cx} {G : Gam} {g : Nat → V} {W : WX} {pos : Pos} {T : Tmp} {H : Hp} {ρ : Env} {σ : L2.St}
theorem ps_parN {ts es : List Expr} {gs : TGs} {ta : TA} {n kt k2 : Nat} {pt pt2 : Pos} (hc : X.calm = true) (ha : PA X es ta) (hg : PGs X ts gs)
    (hn : (assignEach ts X.env).length = n) (hst : (assignEach ts X.env).findIdx? (·.1) = none) (hz : n ≤ sizeLine)
    (hs : swapsWithSole [.Tuple ts kt pt] (.Tuple es k2 pt2) pos.line X.env = pure false) (hw : swappedStores [.Tuple ts kt pt] (.Tuple es k2 pt2) X.env = pure none)
    (h1 : (assignEach [.Tuple ts kt pt] X.env).map (·.2) = [assign (.Tuple ts kt pt) X.env]) :
    PS X (.Assign [.Tuple ts kt pt] (.Tuple es k2 pt2) pos) (fun D σ H => ta σ H fun vs H1 => vs.length = n ∧ gs vs σ H1 D.nx) := by
  refine ⟨fun pins s σ H D I h => ?_⟩
  refine wpAny_Assign_stores (Tuple_ (thn (ha.run _ pins s σ H _ I h) fun us s1 ⟨vs, H1, I1, r1, hl, q1⟩ => ?_)) hs hw
  refine wpAny_newObj_type ?_ (by show us.length ≤ sizeLine; rw [← r1.length, hl]; exact hz)
  have I2 : Inv X pins σ H1 { s1 with heap := s1.heap.push { cls := .type "tuple", data := .seq us.toArray } } := I1.kept (t' := s1.toks) fun b o e => Heap.get?_push_of_some _ e
  rw [h1]
  show wpAny _ _ (assign (.Tuple ts kt pt) X.env (.ref s1.heap.objs.size)) _ _ _
  refine assign_Tuple_tuple (I.ok.hd hc) (IsTup.new s1.heap _) (by rw [hn, ← hl, r1.length]; simp) hst fun h' hx => ?_
  have I3 := I2.kept (h' := h') (t' := s1.toks) fun b o e => hx b o (Nat.ne_of_lt (Heap.lt_size e)) e
  exact thn (hg.run pins _ σ H1 vs _ _ I3 (by simpa using r1) q1) fun _ s2 q => q
def gsN : List Nat → TGs
  | [] => gNil
  | i :: is => gCons (gName i) (gsN is)
structure PNs (X : Cx) (ts : List Expr) (is : List Nat) : Prop where
  g : PGs X ts (gsN is)
  len : ts.length = is.length
theorem pns_nil : PNs X [] [] := ⟨pgs_nil, rfl⟩
theorem pns_cons {i : Nat} {x : Str} {ts : List Expr} {is : List Nat} {p : Pos} (hN : X.N.Nodup) (hi : X.N[i]? = some x) (hx : Loc X.env.scope x) (h : PNs X ts is) (hf : X.fn x = true ∨ X.env.scope.names.lookup x = some .local := by first | exact .inl rfl | exact .inr rfl | assumption)
    (hs : (assignEach (.Name x p :: ts) X.env).map (·.2) = assign (.Name x p) X.env :: (assignEach ts X.env).map (·.2) := by rfl) : PNs X (.Name x p :: ts) (i :: is) :=
  ⟨pgs_cons (pg_name hN hi hx hf) h.g hs, by simp [h.len]⟩
def setCs : List Nat → List (Option Cell) → Env → Option Env
  | [], [], ρ => some ρ
  | i :: is, some c :: cs, ρ => setCs is cs (ρ.set i (un c))
  | _, _, _ => none
def sParN (is : List Nat) (ds : List DE) : DS := fun ρ => match evO (ds.map .ex) ρ with
  | .ok cs ρ' => match setCs is cs ρ' with
    | some ρ2 => .nx ρ2
    | none => .stk
  | .exc e ρ' => .exc e ρ'
  | .stk => .stk
theorem parN_rel : ∀ {os : List Opd} {cs : List (Option Cell)} {vs : List V} {M : Tmp}, Argd σ os cs vs M → ∀ (is : List Nat) (ρ ρ2 : Env) (σ1 : L2.St) (Q : L2.St → Hp → Prop), setCs is cs ρ = some ρ2 → Rel G g ρ σ1 (M ++ T) H → (∀ σ2, Rel G g ρ2 σ2 T H → Q σ2 H) → vs.length = is.length ∧ gsN is vs σ1 H Q
  | _, _, _, _, .nil, is, ρ, ρ2, σ1, Q, e, r, h => by
    cases is with
    | nil => cases e; exact ⟨rfl, rfl, h _ r⟩
    | cons i is => cases e
  | _, _, _, _, .nm ev a, is, ρ, ρ2, σ1, Q, e, r, h => by
    cases is <;> cases e
  | _, _, _, _, .ex (c := c) (v := v) (M := M) a, is, ρ, ρ2, σ1, Q, e, r, h => by
    cases is with
    | nil => cases e
    | cons i is =>
      have r1 : Rel G g ρ σ1 ((c, some v) :: (M ++ T)) H := ⟨r.1, r.2.perm (List.Perm.append_left _ (by rw [List.append_assoc]; exact mid_perm _ M T))⟩
      obtain ⟨hl, q⟩ := parN_rel a is _ ρ2 _ Q e r1.store h
      exact ⟨by simp [hl], v, _, rfl, q⟩
theorem ss_parN {ts es : List Expr} {is : List Nat} {ds : List DE} {kt k2 : Nat} {pt pt2 : Pos} (hc : X.calm = true) (hg : PNs X ts is) (ha : PA X es (tOs G W (ds.map .ex)))
    (hn : (assignEach ts X.env).length = is.length := by rfl) (hst : (assignEach ts X.env).findIdx? (·.1) = none := by rfl) (hz : is.length ≤ sizeLine := by decide)
    (hs : swapsWithSole [.Tuple ts kt pt] (.Tuple es k2 pt2) pos.line X.env = pure false := by rfl) (hw : swappedStores [.Tuple ts kt pt] (.Tuple es k2 pt2) X.env = pure none := by rfl)
    (h1 : (assignEach [.Tuple ts kt pt] X.env).map (·.2) = [assign (.Tuple ts kt pt) X.env] := by rfl) :
    PS X (.Assign [.Tuple ts kt pt] (.Tuple es k2 pt2) pos) (tS G W (sParN is ds)) :=
  (ps_parN hc ha hg.g hn hst hz hs hw h1).weak fun E σ H ⟨g, ρ, T, r, h⟩ => by
    refine tOs_run (T := T) (ds.map .ex) ρ [] H _ r ?_
    unfold sParN at h
    cases e : evO (ds.map .ex) ρ with
    | stk => rw [e] at h; exact h
    | exc n ρ' => rw [e] at h; exact fun H' r' => h σ H' r'
    | ok cs ρ' =>
      rw [e] at h
      intro vs H' M r' a
      simp only at h
      cases q : setCs is cs ρ' with
      | none => rw [q] at h; exact h.elim
      | some ρ2 =>
        rw [q] at h
        exact parN_rel a is ρ' ρ2 σ _ q r' fun σ2 r2 => h σ2 H' r2
end
end Sm

set_option Elab.async false
set_option linter.all false
set_option maxRecDepth 100000
set_option maxHeartbeats 1000000
/-! Sm, part O: from a law's denotation to its promise; the classes of errors. -/
namespace Sm
open PySem PySem.Spec PyProof.Rows L2
def spLaw (K : PySem.W.Frag) : Sp := fun vs H Q _ => ∃ (a : Addr) (ns : List Int), vs = [.ref a] ∧ SqL K H a (ns.map V.int) ∧ ns.length ≤ 63 ∧ ∀ H', Q (.bl true) H'
theorem law_sp {K : PySem.W.Frag} {cl : Nat → Addr} {F : Fn} (h : ∀ ns : List Int, ns.length ≤ 63 → ∃ cs', F [vl (.frl (ns.map .int))] = .ok (vl (.bl true)) cs') : ∀ vs H Q E, spLaw K vs H Q E → spF (GG K cl) F vs H Q E := by
  rintro vs H Q E ⟨a, ns, rfl, hS, hl, q⟩
  obtain ⟨cs', e⟩ := h ns hl
  refine ⟨[vl (.frl (ns.map .int))], [], rfl, fun g => ?_, ?_⟩
  · have r0 : RelL (GG K cl) g [] H := ⟨fun p hp => (nomatch hp), List.nodup_nil, fun P hP => (nomatch hP)⟩
    refine RelL.push (d := .frl (ns.map .int)) r0 (.frl ?_ Reps.map_int)
    rcases hS with hS | hS
    · exact .inl ⟨hS, fun z => (nomatch z)⟩
    · exact .inr hS
  · rw [e]
    intro v H' _ r
    have c := (r fun _ => .non).rep
    cases c
    exact q H'
section
variable {a0 a1 a2 a3 a4 a5 : Addr} {K : PySem.W.Frag}
theorem all6 {R : Addr → Bool → Prop} (k : Nat) (h0 : R a0 (subC 0 k)) (h1 : R a1 (subC 1 k)) (h2 : R a2 (subC 2 k)) (h3 : R a3 (subC 3 k)) (h4 : R a4 (subC 4 k)) (h5 : R a5 (subC 5 k)) : ∀ e, R (cls6 a0 a1 a2 a3 a4 a5 e) (subC e k)
  | 0 => h0 | 1 => h1 | 2 => h2 | 3 => h3 | 4 => h4
  | n + 5 => by
    have e : subC (n + 5) k = subC 5 k := by
      unfold subC
      rw [Nat.min_eq_right (Nat.le_add_left 5 n), Nat.min_self]
    rw [e]
    exact h5
theorem exc6 {R : Addr → Prop} (h0 : R a0) (h1 : R a1) (h2 : R a2) (h3 : R a3) (h4 : R a4) (h5 : R a5) : ∀ e, R (cls6 a0 a1 a2 a3 a4 a5 e)
  | 0 => h0 | 1 => h1 | 2 => h2 | 3 => h3 | 4 => h4
  | _ + 5 => h5
theorem kit_of {S C : Addr} {b : Bool} (h2 : PySem.W.isClsIn K C = true) (h3 : PySem.W.typeIn K (.ref C) = some (.type "type")) (h4 : PySem.W.subIn K (.ref S) (.ref C) = some b) (h5 : PySem.W.subIn K (.ref C) (.ref C) = some true) : PySem.W.kitOne K (.ref S) (.ref C) = some b := by
  have e2 : ((PySem.W.clsIn K C).isSome && PySem.W.typeIn K (.ref C) == some (.type "type")) = true := by
    have h2' : (PySem.W.clsIn K C).isSome = true := h2
    rw [h2', h3] <;> rfl
  show (if ((Value.ref S) == (Value.ref C)) = true then some true else (if ((PySem.W.clsIn K C).isSome && PySem.W.typeIn K (.ref C) == some (.type "type")) = true then PySem.W.subIn K (.ref S) (.ref C) else none)) = some b
  by_cases h : ((Value.ref S) == (Value.ref C)) = true
  · have e : S = C := by simpa using h
    subst e
    rw [if_pos h]
    rw [h4] at h5
    exact h5.symm
  · rw [if_neg h, if_pos e2]
    exact h4
theorem exm_of {S C : Addr} {b : Bool} (h1 : PySem.W.subIn K (.ref C) (.type "BaseException") = some true) (h2 : PySem.W.isClsIn K C = true) (h3 : PySem.W.typeIn K (.ref C) = some (.type "type")) (h4 : PySem.W.subIn K (.ref S) (.ref C) = some b) : PySem.W.exmOne K (.ref S) (.ref C) = some b := by
  have e1 : (PySem.W.subIn K (.ref C) (.type "BaseException") == some true) = true := by rw [h1] <;> rfl
  have e2 : ((PySem.W.clsIn K C).isSome && PySem.W.typeIn K (.ref C) == some (.type "type")) = true := by
    have h2' : (PySem.W.clsIn K C).isSome = true := h2
    rw [h2', h3] <;> rfl
  show (if (PySem.W.subIn K (.ref C) (.type "BaseException") == some true) = true then (if ((PySem.W.clsIn K C).isSome && PySem.W.typeIn K (.ref C) == some (.type "type")) = true then PySem.W.subIn K (.ref S) (.ref C) else none) else none) = some b
  rw [if_pos e1, if_pos e2]
  exact h4
end
end Sm

set_option Elab.async false
set_option linter.all false
set_option maxRecDepth 100000
set_option maxHeartbeats 1000000
/-! Sm, part P: the combinators applied, for simp. -/
namespace Sm
open PySem PySem.Spec PyProof.Rows L2
theorem nrfl {α : Sort u} {a b : α} (h : a = b) : a = b := h
section
variable {a b c : DE} {x y : DS} {ρ ρ1 : Env} {i j k n : Nat}
theorem p_sSeq : sSeq x y ρ = match x ρ with | .nx ρ1 => y ρ1 | r => r := nrfl rfl
theorem p_sIf : sIf a x y ρ = match a ρ with | .ok (.c _ _ (.bl true)) ρ1 => x ρ1 | .ok (.c _ _ (.bl false)) ρ1 => y ρ1 | .ok _ _ => .stk | .exc e ρ1 => .exc e ρ1 | .stk => .stk := nrfl rfl
theorem p_sExpr : sExpr a ρ = match a ρ with | .ok _ ρ1 => .nx ρ1 | .exc e ρ1 => .exc e ρ1 | .stk => .stk := nrfl rfl
theorem p_sRet : sRet a ρ = match a ρ with | .ok c ρ1 => .rt c ρ1 | .exc e ρ1 => .exc e ρ1 | .stk => .stk := nrfl rfl
theorem p_sRetV : sRetV i ρ = match ρ[i]? with | some (.c true none d) => .rt (ow d) (ρ.set i .emp) | some (.c true (some j) d) => .rt (vl d) (ρ.set i (.c false (some j) d)) | some (.c false _ d) => .rt (vl d) ρ | _ => .stk := nrfl rfl
theorem p_sRetN : sRetN ρ = .rt (vl .non) ρ := nrfl rfl
theorem p_sNil : sNil ρ = .nx ρ := nrfl rfl
theorem p_sPass : sPass ρ = .nx ρ := nrfl rfl
theorem p_sBrk : sBrk ρ = .bk ρ := nrfl rfl
theorem p_sCnt : sCnt ρ = .ct ρ := nrfl rfl
theorem p_sAsg : sAsg i a ρ = match a ρ with | .ok c ρ1 => .nx (ρ1.set i (un c)) | .exc e ρ1 => .exc e ρ1 | .stk => .stk := nrfl rfl
theorem p_sRaise : sRaise n ρ = .exc n ρ := nrfl rfl
theorem p_sFor {it : DI} {t : Tg} : sFor it t x ρ = match it ρ with | .ok ds ρ1 => forL t x ds ρ1 | .exc e ρ1 => .exc e ρ1 | .stk => .stk := nrfl rfl
theorem p_sTry : sTry i k x y ρ = match x ρ with | .exc e ρ1 => if subC e k then (match y (ρ1.set i (vl (.exc e))) with | .rt c ρ2 => if Cell.noexc c then .rt c (ρ2.map keepT) else .stk | _ => .stk) else .exc e ρ1 | r => r := nrfl rfl
theorem p_sSetIx {dk de : DE} : sSetIx i dk de ρ = match de ρ with
  | .ok (.c _ _ x) ρ1 => match ρ1[i]? with
    | some (.c true _ (.lst _)) => match dk ρ1 with
      | .ok (.c _ _ (.int k)) ρ2 => match ρ2[i]? with
        | some (.c true b (.lst l)) => match ixN l.length k with
          | some j => .nx (ρ2.set i (.c true b (.lst (l.set j x))))
          | none => .stk
        | _ => .stk
      | .ok _ _ => .stk
      | .exc n ρ2 => .exc n ρ2
      | .stk => .stk
    | _ => .stk
  | .ok .emp _ => .stk
  | .exc n ρ1 => .exc n ρ1
  | .stk => .stk := nrfl rfl
theorem p_sUnp {is : List Nat} {o : Opd} : sUnp is o ρ = match evD [o] ρ with
  | .ok [.tup ds] ρ1 => match setAll is ds ρ1 with
    | some ρ2 => .nx ρ2
    | none => .stk
  | .ok [.lst ds] ρ1 => match setAll is ds ρ1 with
    | some ρ2 => .nx ρ2
    | none => .stk
  | .ok _ _ => .stk
  | .exc n ρ1 => .exc n ρ1
  | .stk => .stk := nrfl rfl
theorem p_sParN {is : List Nat} {ds : List DE} : sParN is ds ρ = match evO (ds.map .ex) ρ with
  | .ok cs ρ' => match setCs is cs ρ' with
    | some ρ2 => .nx ρ2
    | none => .stk
  | .exc e ρ' => .exc e ρ'
  | .stk => .stk := nrfl rfl
theorem p_sPar2 {d1 d2 : DE} : sPar2 i j d1 d2 ρ = match d1 ρ with
  | .ok c1 ρ1 => match d2 ρ1 with
    | .ok c2 ρ2 => .nx ((ρ2.set i (un c1)).set j (un c2))
    | .exc n ρ2 => .exc n ρ2
    | .stk => .stk
  | .exc n ρ1 => .exc n ρ1
  | .stk => .stk := nrfl rfl
theorem p_evD {os : List Opd} : evD os ρ = match evO os ρ with | .ok cs ρ' => (match lookO ρ' os cs with | some ds => .ok ds ρ' | none => .stk) | .exc e ρ' => .exc e ρ' | .stk => .stk := nrfl rfl
theorem p_eOp {f : List D → Option Cell} {os : List Opd} : eOp f os ρ = match evD os ρ with | .ok ds ρ' => (match f ds with | some c => .ok c ρ' | none => .stk) | .exc e ρ' => .exc e ρ' | .stk => .stk := nrfl rfl
theorem p_eC {d : D} : eC d ρ = .ok (vl d) ρ := nrfl rfl
theorem p_eVar : eVar i ρ = match ρ[i]? with | some (.c false _ d) => .ok (vl d) ρ | some (.c true b d) => .ok (vl d) (ρ.set i (.c false b d)) | _ => .stk := nrfl rfl
theorem p_eSeq {mk : List D → Option Cell} {ds : List DE} : eSeq mk ds ρ = match evO (ds.map .ex) ρ with
  | .ok cs ρ' => match allD cs with
    | some xs => match mk xs with
      | some c => .ok c ρ'
      | none => .stk
    | none => .stk
  | .exc e ρ' => .exc e ρ'
  | .stk => .stk := nrfl rfl
theorem p_eAnd : eAnd a b ρ = match a ρ with | .ok (.c _ _ (.bl true)) ρ1 => b ρ1 | .ok (.c _ _ (.bl false)) ρ1 => .ok (vl (.bl false)) ρ1 | .ok _ _ => .stk | .exc e ρ1 => .exc e ρ1 | .stk => .stk := nrfl rfl
theorem p_eOr : eOr a b ρ = match a ρ with | .ok (.c _ _ (.bl true)) ρ1 => .ok (vl (.bl true)) ρ1 | .ok (.c _ _ (.bl false)) ρ1 => b ρ1 | .ok _ _ => .stk | .exc e ρ1 => .exc e ρ1 | .stk => .stk := nrfl rfl
theorem p_eNot : eNot a ρ = match a ρ with | .ok (.c _ _ (.bl b)) ρ1 => .ok (vl (.bl (!b))) ρ1 | .ok _ _ => .stk | .exc e ρ1 => .exc e ρ1 | .stk => .stk := nrfl rfl
theorem p_eIf : eIf c a b ρ = match c ρ with | .ok (.c _ _ (.bl true)) ρ1 => a ρ1 | .ok (.c _ _ (.bl false)) ρ1 => b ρ1 | .ok _ _ => .stk | .exc e ρ1 => .exc e ρ1 | .stk => .stk := nrfl rfl
theorem p_eChain {p q : Int → Int → Bool} : eChain p q a b c ρ = match a ρ with
  | .ok (.c _ _ (.int i)) ρ1 => match b ρ1 with
    | .ok (.c _ _ (.int j)) ρ2 => if p i j then match c ρ2 with
        | .ok (.c _ _ (.int k)) ρ3 => .ok (vl (.bl (q j k))) ρ3
        | .ok _ _ => .stk
        | .exc e ρ3 => .exc e ρ3
        | .stk => .stk
      else .ok (vl (.bl false)) ρ2
    | .ok _ _ => .stk
    | .exc e ρ2 => .exc e ρ2
    | .stk => .stk
  | .ok _ _ => .stk
  | .exc e ρ1 => .exc e ρ1
  | .stk => .stk := nrfl rfl
theorem p_eCall {F : Fn} {os : List Opd} : eCall F os ρ = match evO os ρ with
  | .ok cs ρ1 => match takeA os cs ρ1 with
    | some (as, ρ2) => match F as with
      | .ok c as' => .ok (un c) (giveB ρ1 os as' ρ2)
      | .exc e as' => .exc e (giveB ρ1 os as' ρ2)
      | .stk => .stk
    | none => .stk
  | .exc e ρ1 => .exc e ρ1
  | .stk => .stk := nrfl rfl
theorem p_mkF {np ns : Nat} {body : DS} {cs : List Cell} : mkF np ns body cs = if cs.length = np then match body (startC 0 cs ++ List.replicate (ns - np) .emp) with
    | .nx ρ => match endC ρ 0 cs with
      | some cs' => .ok (vl .non) cs'
      | none => .stk
    | .rt c ρ => match endC ρ 0 cs with
      | some cs' => .ok c cs'
      | none => .stk
    | .exc e ρ => match endC ρ 0 cs with
      | some cs' => .exc e cs'
      | none => .stk
    | _ => .stk
  else .stk := nrfl rfl
theorem p_eLc {it : DI} {t : Tg} {vs : List Nat} : eLc it t c a vs ρ = match it ρ with | .ok ds ρ1 => lcL t c a vs ds [] ρ1 | .exc n ρ1 => .exc n ρ1 | .stk => .stk := nrfl rfl
theorem p_dYes : dYes ρ = .ok (vl (.bl true)) ρ := nrfl rfl
theorem p_iAny : iAny a ρ = match a ρ with | .ok (.c _ _ x) ρ' => (match itemsD x with | some ds => .ok ds ρ' | none => .stk) | .ok _ _ => .stk | .exc e ρ' => .exc e ρ' | .stk => .stk := nrfl rfl
theorem p_iLst : iLst a ρ = match a ρ with | .ok (.c _ _ (.lst ds)) ρ' => .ok ds ρ' | .ok (.c _ _ (.frl ds)) ρ' => .ok ds ρ' | .ok _ _ => .stk | .exc e ρ' => .exc e ρ' | .stk => .stk := nrfl rfl
theorem p_iRange1 : iRange1 a ρ = match a ρ with | .ok (.c _ _ (.int n)) ρ' => if rngOk n then .ok (rngD 0 n.toNat) ρ' else .stk | .ok _ _ => .stk | .exc e ρ' => .exc e ρ' | .stk => .stk := nrfl rfl
theorem p_iRange2 : iRange2 a b ρ = match a ρ with
  | .ok (.c _ _ (.int i)) ρ1 => match b ρ1 with
    | .ok (.c _ _ (.int j)) ρ2 => if rngOk i && rngOk j then .ok (rngD i (j - i).toNat) ρ2 else .stk
    | .ok _ _ => .stk
    | .exc e ρ2 => .exc e ρ2
    | .stk => .stk
  | .ok _ _ => .stk
  | .exc e ρ1 => .exc e ρ1
  | .stk => .stk := nrfl rfl
theorem p_eMut {f : MutF} {ds : List DE} : eMut f i ds ρ = match ρ[i]? with
  | some (.c true _ (.lst _)) => match evO (ds.map .ex) ρ with
    | .ok cs ρ' => match allD cs with
      | some xs => match ρ'[i]? with
        | some (.c true b (.lst l)) => match f l xs with
          | some (l', x) => .ok (vl x) (ρ'.set i (.c true b (.lst l')))
          | none => .stk
        | _ => .stk
      | none => .stk
    | .exc e ρ' => .exc e ρ'
    | .stk => .stk
  | _ => .stk := nrfl rfl
end
/-! the operations at their operands -/
theorem un_c {o : Bool} {t : Option Nat} {d : D} : un (.c o t d) = .c o none d := rfl
theorem un_e : un .emp = .emp := rfl
section
variable {i j k : Int} {b : Bool} {xs ys : List D} {s : Str}
theorem t_lt {p : Int → Int → Bool} : fCmpI p [.int i, .int j] = some (vl (.bl (p i j))) := rfl
theorem t_add : fAdd [.int i, .int j] = some (vl (.int (i + j))) := rfl
theorem t_sub : fSub [.int i, .int j] = some (vl (.int (i - j))) := rfl
theorem t_mul : fMul [.int i, .int j] = if mulOk i j then some (vl (.int (i * j))) else none := rfl
theorem t_fd : fFdiv [.int i, .int j] = if divOk j then some (vl (.int (i / j))) else none := rfl
theorem t_md : fMod [.int i, .int j] = if 0 < j then some (vl (.int (i % j))) else none := rfl
theorem t_pw : fPow [.int i, .int j] = if powOk i j then some (vl (.int (i ^ j.toNat))) else none := rfl
theorem t_ng : fNeg [.int i] = some (vl (.int (-i))) := rfl
theorem t_tb : fTru [.bl b] = some (vl (.bl b)) := rfl
theorem t_ti : fTru [.int i] = some (vl (.bl (i != 0))) := rfl
theorem t_l1 : fLen [.lst xs] = some (vl (.int xs.length)) := rfl
theorem t_l2 : fLen [.frl xs] = some (vl (.int xs.length)) := rfl
theorem t_l3 : fLen [.tup xs] = some (vl (.int xs.length)) := rfl
theorem t_mx : fMax2 [.int i, .int j] = some (vl (.int (if j > i then j else i))) := rfl
theorem t_mn : fMin2 [.int i, .int j] = some (vl (.int (if j < i then j else i))) := rfl
theorem t_ab : fAbs [.int i] = some (vl (.int (if i < 0 then -i else i))) := rfl
theorem t_in : fInt [.int i] = some (vl (.int i)) := rfl
theorem t_it1 : itemsD (.lst xs) = some xs := rfl
theorem t_it2 : itemsD (.frl xs) = some xs := rfl
theorem t_it3 : itemsD (.tup xs) = some xs := rfl
theorem fi_ii (v : Int) : fIsI "int" [.int v] = some (vl (.bl true)) := by rfl
theorem fi_ib (v : Int) : fIsI "bool" [.int v] = some (vl (.bl false)) := by rfl
end
/-! numbers -/
theorem mulOk_of {i j : Int} {n m : Nat} (hi : i.natAbs < 2 ^ n) (hj : j.natAbs < 2 ^ m) (h : n + m < 1000000) : mulOk i j = true := by
  have lg : ∀ {a k : Nat}, a < 2 ^ k → a.log2 ≤ k := fun {a k} h => by
    by_cases z : a = 0
    · subst z; simp
    · exact Nat.le_of_lt ((Nat.log2_lt z).mpr h)
  unfold mulOk
  have h1 := lg hi
  have h2 := lg hj
  exact decide_eq_true (by omega)
end Sm
namespace Sm
open PySem PySem.Spec PyProof.Rows L2
section
variable {i j k l : Int} {xs ys : List D}
theorem t_eq : fEq [.int i, .int j] = some (vl (.bl (i == j))) := by
  simp only [fEq, eqOk, D.plain, D.depth, D.eqv, Bool.true_and, Nat.min_self, Nat.zero_le, decide_true, if_true]
theorem t_ne : fNe [.int i, .int j] = some (vl (.bl (!(i == j)))) := by
  simp only [fNe, eqOk, D.plain, D.depth, D.eqv, Bool.true_and, Nat.min_self, Nat.zero_le, decide_true, if_true]
theorem t_net : fNe [.tup [.int i, .int j], .tup [.int k, .int l]] = some (vl (.bl (!(i == k && (j == l && true))))) := by
  simp only [fNe, eqOk, D.plain, D.plains, D.depth, D.depths, D.eqv, D.eqvs, Bool.true_and, Nat.min_self, Nat.zero_le, decide_true, if_true, Nat.max_self, Nat.zero_add, Nat.reduceLeDiff]
theorem t_xor : fXor [.int i, .int j] = some (vl (.int (Builtin.bitXor i j))) := rfl
theorem t_shr : fShr [.int i, .int j] = if 0 ≤ j then some (vl (.int (i / 2 ^ j.toNat))) else none := rfl
theorem xor_bound {n : Nat} (h0 : 0 ≤ i) (h1 : i < 2 ^ n) (k0 : 0 ≤ j) (k1 : j < 2 ^ n) : 0 ≤ Builtin.bitXor i j ∧ Builtin.bitXor i j < 2 ^ (n + 1) := by
  rw [bitXor_and, bitAnd_pp h0 k0]
  have e1 := Nat.and_le_left (n := i.toNat) (m := j.toNat)
  have e2 := Nat.and_le_right (n := i.toNat) (m := j.toNat)
  have : (2 : Int) ^ (n + 1) = 2 ^ n + 2 ^ n := by rw [Int.pow_succ]; omega
  omega
theorem t_ixl {d : D} (h : atI xs i = some d) : fIx [.lst xs, .int i] = some (vl d) := by unfold fIx; simp only [h]
theorem t_ixt {d : D} (h : atI xs i = some d) : fIx [.tup xs, .int i] = some (vl d) := by unfold fIx; simp only [h]
theorem t_ixln {d : D} {n : Nat} (h : xs[n]? = some d) : fIx [.lst xs, .int (n : Int)] = some (vl d) := t_ixl (atI_nat h)
theorem ix30 : ixN 3 0 = some 0 := rfl
theorem ix31 : ixN 3 1 = some 1 := rfl
theorem divOk_of (h : 0 < j) (h2 : j < 2 ^ 200) : divOk j = true := by
  unfold divOk
  have : j.natAbs.log2 < 9000 := by
    have := (Nat.log2_lt (n := j.natAbs) (k := 200) (by omega)).mpr (by omega)
    omega
  rw [decide_eq_true h, decide_eq_true this]
  rfl
end
end Sm

set_option Elab.async false
set_option linter.all false
set_option maxRecDepth 100000
set_option maxHeartbeats 4000000
namespace K56
open PySem PySem.Spec PyProof.Rows L2 Sm
def top (i : Nat) : Stmt := PySem.Challenge.pw_playheld_k56_whole_songs_that_grow.main.body.getD i (.Pass ⟨0, 0, 0, 0⟩)
abbrev s__law_open : Stmt := top 18
abbrev N__law_open : List Str := ["script", "cells", "cell"]
theorem sc__law_open : FnScope N__law_open ["script"] (defScope s__law_open) := ⟨rfl, rfl, rfl, by decide +kernel, rfl, by decide +kernel, by decide +kernel⟩
def d__law_open : DS :=
    sSeq (sAsg 1 (eLc (iAny (eOp fSl2 [.nm 0, .ex (eC (.int 63))])) (.nm 2) (dYes) (eOp fAbs [.ex (eOp fInt [.nm 2])]) [2]))
    (sRet (eSeq mkLst [eC (.int 0), eC (.int 0), eOp fAdd [.nm 1, .ex (eSeq mkLst [eC (.int 0)])]]))
abbrev s_is_number : Stmt := top 9
abbrev N_is_number : List Str := ["value", "least", "most"]
theorem sc_is_number : FnScope N_is_number ["value", "least", "most"] (defScope s_is_number) := ⟨rfl, rfl, rfl, by decide +kernel, rfl, by decide +kernel, by decide +kernel⟩
def d_is_number : DS :=
    sRet (eAnd (eOp (fIsI "int") [.nm 0]) (eAnd (eNot (eOp fTru [.ex (eOp (fIsI "bool") [.nm 0])])) (eChain lLe lLe (eVar 1) (eVar 0) (eVar 2))))
abbrev s_check : Stmt := top 11
abbrev N_check : List Str := ["number", "least"]
theorem sc_check : FnScope N_check ["number", "least"] (defScope s_check) := ⟨rfl, rfl, rfl, by decide +kernel, rfl, by decide +kernel, by decide +kernel⟩
def d_check : DS :=
    sIf (eNot (eOp fTru [.ex (eCall (mkF 3 3 d_is_number) [.nm 0, .nm 1, .ex (eOp fMax2 [.nm 0, .nm 1])])])) (sRaise 1) (sNil)
abbrev s_lines_sung : Stmt := top 12
abbrev N_lines_sung : List Str := ["verses"]
theorem sc_lines_sung : FnScope N_lines_sung ["verses"] (defScope s_lines_sung) := ⟨rfl, rfl, rfl, by decide +kernel, rfl, by decide +kernel, by decide +kernel⟩
def d_lines_sung : DS :=
    sSeq (sExpr (eCall (mkF 2 2 d_check) [.nm 0, .ex (eC (.int 0))]))
    (sRet (eOp fFdiv [.ex (eOp fMul [.nm 0, .ex (eOp fAdd [.nm 0, .ex (eC (.int 1))])]), .ex (eC (.int 2))]))
abbrev s_thing_at : Stmt := top 13
abbrev N_thing_at : List Str := ["line", "verse"]
theorem sc_thing_at : FnScope N_thing_at ["line"] (defScope s_thing_at) := ⟨rfl, rfl, rfl, by decide +kernel, rfl, by decide +kernel, by decide +kernel⟩
def d_thing_at : DS :=
    sSeq (sExpr (eCall (mkF 2 2 d_check) [.nm 0, .ex (eC (.int 0))]))
    (sSeq (sAsg 1 (eOp fFdiv [.ex (eOp fAdd [.ex (eOp fIsqrt [.ex (eOp fAdd [.ex (eOp fMul [.ex (eC (.int 8)), .nm 0]), .ex (eC (.int 1))])]), .ex (eC (.int 1))]), .ex (eC (.int 2))]))
    (sRet (eSeq mkTup [eVar 1, eOp fSub [.nm 1, .ex (eOp fSub [.nm 0, .ex (eCall (mkF 1 1 d_lines_sung) [.ex (eOp fSub [.nm 1, .ex (eC (.int 1))])])])]])))
abbrev s_sung_of : Stmt := top 14
abbrev N_sung_of : List Str := ["verses", "thing"]
theorem sc_sung_of : FnScope N_sung_of ["verses", "thing"] (defScope s_sung_of) := ⟨rfl, rfl, rfl, by decide +kernel, rfl, by decide +kernel, by decide +kernel⟩
def d_sung_of : DS :=
    sSeq (sExpr (eCall (mkF 2 2 d_check) [.nm 0, .ex (eC (.int 0))]))
    (sSeq (sExpr (eCall (mkF 2 2 d_check) [.nm 1, .ex (eC (.int 1))]))
    (sRet (eOp fMax2 [.ex (eC (.int 0)), .ex (eOp fAdd [.ex (eOp fSub [.nm 0, .nm 1]), .ex (eC (.int 1))])])))
abbrev s_line_of : Stmt := top 15
abbrev N_line_of : List Str := ["verse", "thing"]
theorem sc_line_of : FnScope N_line_of ["verse", "thing"] (defScope s_line_of) := ⟨rfl, rfl, rfl, by decide +kernel, rfl, by decide +kernel, by decide +kernel⟩
def d_line_of : DS :=
    sRet (eOp fSub [.ex (eOp fAdd [.ex (eCall (mkF 1 1 d_lines_sung) [.ex (eOp fSub [.nm 0, .ex (eC (.int 1))])]), .nm 0]), .nm 1])
abbrev s_next_line_of : Stmt := top 16
abbrev N_next_line_of : List Str := ["thing", "line", "verse", "found"]
theorem sc_next_line_of : FnScope N_next_line_of ["thing", "line"] (defScope s_next_line_of) := ⟨rfl, rfl, rfl, by decide +kernel, rfl, by decide +kernel, by decide +kernel⟩
def d_next_line_of : DS :=
    sSeq (sExpr (eCall (mkF 2 2 d_check) [.nm 0, .ex (eC (.int 1))]))
    (sSeq (sExpr (eCall (mkF 2 2 d_check) [.nm 1, .ex (eC (.int 0))]))
    (sSeq (sAsg 2 (eOp fMax2 [.nm 0, .ex (eOp fIx [.ex (eCall (mkF 1 2 d_thing_at) [.nm 1]), .ex (eC (.int 0))])]))
    (sSeq (sAsg 3 (eCall (mkF 2 2 d_line_of) [.nm 2, .nm 0]))
    (sRet (eIf (eOp fGe [.nm 3, .nm 1]) (eVar 3) (eCall (mkF 2 2 d_line_of) [.ex (eOp fAdd [.nm 2, .ex (eC (.int 1))]), .nm 0]))))))
abbrev s__law_told : Stmt := top 21
abbrev N__law_told : List Str := ["error", "kinds", "names", "name", "true"]
theorem sc__law_told : FnScope N__law_told ["error"] (defScope s__law_told) := ⟨rfl, rfl, rfl, by decide +kernel, rfl, by decide +kernel, by decide +kernel⟩
def d__law_told : DS :=
    sSeq (sAsg 1 (eSeq mkLst [eSeq mkTup [eC (.str "OutOfRange"), eOp (fIsE 1) [.nm 0]], eSeq mkTup [eC (.str "Malformed"), eOp (fIsE 2) [.nm 0]], eSeq mkTup [eC (.str "NotThere"), eOp (fIsE 3) [.nm 0]], eSeq mkTup [eC (.str "Refused"), eOp (fIsE 4) [.nm 0]], eSeq mkTup [eC (.str "TooMuch"), eOp (fIsE 5) [.nm 0]]]))
    (sSeq (sAsg 2 (eLc (iLst (eVar 1)) (.tt [3, 4]) (eOp fTru [.nm 4]) (eVar 3) [3, 4]))
    (sSeq (sIf (eOr (eOp fNe [.ex (eOp fLen [.nm 2]), .ex (eC (.int 1))]) (eNot (eOp fTru [.ex (eOp (fIsE 0) [.nm 0])]))) (sRet (eC (.str "several"))) (sNil))
    (sRet (eOp fIx [.nm 2, .ex (eC (.int 0))]))))
abbrev s__law_asked : Stmt := top 23
abbrev N__law_asked : List Str := ["what", "a", "b", "error"]
theorem sc__law_asked : FnScope N__law_asked ["what", "a", "b"] (defScope s__law_asked) := ⟨rfl, rfl, rfl, by decide +kernel, rfl, by decide +kernel, by decide +kernel⟩
def d__law_asked : DS :=
    sTry 3 0 (sSeq (sIf (eOp fEq [.nm 0, .ex (eC (.int 0))]) (sRet (eCall (mkF 1 1 d_lines_sung) [.nm 1])) (sNil))
    (sSeq (sIf (eOp fEq [.nm 0, .ex (eC (.int 1))]) (sRet (eCall (mkF 1 2 d_thing_at) [.nm 1])) (sNil))
    (sRet (eIf (eOp fEq [.nm 0, .ex (eC (.int 2))]) (eCall (mkF 2 2 d_sung_of) [.nm 1, .nm 2]) (eCall (mkF 2 4 d_next_line_of) [.nm 1, .nm 2]))))) (sRet (eCall (mkF 1 5 d__law_told) [.nm 3]))
abbrev s__law_mixed : Stmt := top 19
abbrev N__law_mixed : List Str := ["cell", "turn", "number"]
theorem sc__law_mixed : FnScope N__law_mixed ["cell", "turn"] (defScope s__law_mixed) := ⟨rfl, rfl, rfl, by decide +kernel, rfl, by decide +kernel, by decide +kernel⟩
def d__law_mixed : DS :=
    sSeq (sAsg 2 (eOp fMod [.ex (eOp fAdd [.ex (eOp fAdd [.ex (eOp fMul [.ex (eOp fMod [.nm 0, .ex (eOp fSub [.ex (eOp fPow [.ex (eC (.int 2)), .ex (eC (.int 61))]), .ex (eC (.int 1))])]), .ex (eC (.int 6364136223846793005))]), .ex (eOp fMul [.nm 1, .ex (eC (.int 1442695040888963407))])]), .ex (eC (.int 97))]), .ex (eOp fPow [.ex (eC (.int 2)), .ex (eC (.int 61))])]))
    (sSeq (sAsg 2 (eOp fMod [.ex (eOp fMul [.ex (eOp fXor [.nm 2, .ex (eOp fShr [.nm 2, .ex (eC (.int 29))])]), .ex (eC (.int 3935559000370003845))]), .ex (eOp fPow [.ex (eC (.int 2)), .ex (eC (.int 61))])]))
    (sRet (eOp fMod [.ex (eOp fMul [.ex (eOp fXor [.nm 2, .ex (eOp fShr [.nm 2, .ex (eC (.int 31))])]), .ex (eC (.int 2862933555777941757))]), .ex (eOp fPow [.ex (eC (.int 2)), .ex (eC (.int 61))])])))
abbrev s__law_draw : Stmt := top 20
abbrev N__law_draw : List Str := ["draws", "size", "turn", "left", "cells", "cell"]
theorem sc__law_draw : FnScope N__law_draw ["draws", "size"] (defScope s__law_draw) := ⟨rfl, rfl, rfl, by decide +kernel, rfl, by decide +kernel, by decide +kernel⟩
def d__law_draw : DS :=
    sSeq (sUnp [2, 3, 4] (.nm 0))
    (sSeq (sIf (eOp fLt [.nm 3, .nm 1]) (sSeq (sAsg 5 (eOp fIx [.nm 4, .ex (eOp fMod [.nm 2, .ex (eOp fLen [.nm 4])])]))
    (sSeq (sAsg 3 (eIf (eAnd (eOp fLt [.nm 2, .ex (eOp fLen [.nm 4])]) (eOp fGe [.nm 5, .ex (eOp fPow [.ex (eC (.int 10)), .ex (eC (.int 18))])])) (eVar 5) (eCall (mkF 2 3 d__law_mixed) [.nm 5, .nm 2])))
    (sAsg 2 (eOp fAdd [.nm 2, .ex (eC (.int 1))])))) (sNil))
    (sSeq (sSetIx 0 (eC (.int 0)) (eVar 2))
    (sSeq (sSetIx 0 (eC (.int 1)) (eOp fFdiv [.nm 3, .nm 1]))
    (sRet (eOp fMod [.nm 3, .nm 1])))))
abbrev s__law_int : Stmt := top 22
abbrev N__law_int : List Str := ["value"]
theorem sc__law_int : FnScope N__law_int ["value"] (defScope s__law_int) := ⟨rfl, rfl, rfl, by decide +kernel, rfl, by decide +kernel, by decide +kernel⟩
def d__law_int : DS :=
    sRet (eAnd (eOp (fIsI "int") [.nm 0]) (eNot (eOp fTru [.ex (eOp (fIsI "bool") [.nm 0])])))
abbrev s_law : Stmt := top 24
abbrev N_law : List Str := ["script", "draws", "verses", "song", "verse", "thing", "turn", "line", "place", "later", "k", "great", "ahead", "words"]
theorem sc_law : FnScope N_law ["script"] (defScope s_law) := ⟨rfl, rfl, rfl, by decide +kernel, rfl, by decide +kernel, by decide +kernel⟩
def d_law : DS :=
    sSeq (sAsg 1 (eCall (mkF 1 3 d__law_open) [.nm 0]))
    (sSeq (sParN [2, 3] [eOp fAdd [.ex (eC (.int 1)), .ex (eCall (mkF 2 6 d__law_draw) [.nm 1, .ex (eC (.int 25))])], eSeq mkLst []])
    (sSeq (sFor (iRange2 (eC (.int 1)) (eOp fAdd [.nm 2, .ex (eC (.int 1))])) (.nm 4) (sFor (iRange1 (eVar 4)) (.nm 5) (sExpr (eMut mAppend 3 [eSeq mkTup [eVar 4, eOp fSub [.nm 4, .nm 5]]]))))
    (sSeq (sIf (eOr (eOp fNe [.ex (eCall (mkF 3 4 d__law_asked) [.ex (eC (.int 0)), .nm 2, .ex (eC (.int 0))]), .ex (eOp fLen [.nm 3])]) (eOr (eNot (eOp fTru [.ex (eCall (mkF 1 1 d__law_int) [.ex (eCall (mkF 1 1 d_lines_sung) [.nm 2])])])) (eOp fNe [.ex (eCall (mkF 1 1 d_lines_sung) [.ex (eC (.int 0))]), .ex (eC (.int 0))]))) (sRet (eC (.bl false))) (sNil))
    (sSeq (sFor (iRange1 (eC (.int 5))) (.nm 6) (sSeq (sAsg 7 (eOp fIx [.ex (eSeq mkLst [eC (.int 0), eOp fSub [.ex (eOp fLen [.nm 3]), .ex (eC (.int 1))], eCall (mkF 2 6 d__law_draw) [.nm 1, .ex (eOp fLen [.nm 3])], eCall (mkF 2 6 d__law_draw) [.nm 1, .ex (eOp fLen [.nm 3])], eCall (mkF 2 6 d__law_draw) [.nm 1, .ex (eOp fLen [.nm 3])]]), .nm 6]))
    (sSeq (sAsg 5 (eOp fAdd [.ex (eC (.int 1)), .ex (eCall (mkF 2 6 d__law_draw) [.nm 1, .nm 2])]))
    (sSeq (sIf (eOr (eOp fNe [.ex (eCall (mkF 3 4 d__law_asked) [.ex (eC (.int 1)), .nm 7, .ex (eC (.int 0))]), .ex (eOp fIx [.nm 3, .nm 7])]) (eOr (eOp fNe [.ex (eCall (mkF 3 4 d__law_asked) [.ex (eC (.int 2)), .nm 2, .nm 5]), .ex (eOp fLen [.ex (eLc (iAny (eVar 3)) (.nm 8) (eOp fEq [.ex (eOp fIx [.nm 8, .ex (eC (.int 1))]), .nm 5]) (eVar 8) [8])])]) (eNot (eOp fTru [.ex (eCall (mkF 1 1 d__law_int) [.ex (eCall (mkF 2 2 d_sung_of) [.nm 2, .nm 5])])])))) (sRet (eC (.bl false))) (sNil))
    (sSeq (sAsg 9 (eLc (iRange2 (eVar 7) (eOp fLen [.nm 3])) (.nm 10) (eOp fEq [.ex (eOp fIx [.ex (eOp fIx [.nm 3, .nm 10]), .ex (eC (.int 1))]), .nm 5]) (eVar 10) [10]))
    (sIf (eOr (eAnd (eOp fNe [.nm 9, .ex (eSeq mkLst [])]) (eOp fNe [.ex (eCall (mkF 3 4 d__law_asked) [.ex (eC (.int 3)), .nm 5, .nm 7]), .ex (eOp fIx [.nm 9, .ex (eC (.int 0))])])) (eNot (eOp fTru [.ex (eCall (mkF 1 1 d__law_int) [.ex (eCall (mkF 2 4 d_next_line_of) [.nm 5, .nm 7])])]))) (sRet (eC (.bl false))) (sNil)))))))
    (sSeq (sIf (eOp fNe [.ex (eCall (mkF 3 4 d__law_asked) [.ex (eC (.int 2)), .nm 2, .ex (eOp fAdd [.ex (eOp fAdd [.nm 2, .ex (eC (.int 1))]), .ex (eCall (mkF 2 6 d__law_draw) [.nm 1, .ex (eOp fPow [.ex (eC (.int 10)), .ex (eC (.int 6))])])])]), .ex (eC (.int 0))]) (sRet (eC (.bl false))) (sNil))
    (sSeq (sAsg 11 (eOp fAdd [.ex (eOp fPow [.ex (eC (.int 10)), .ex (eC (.int 20))]), .ex (eCall (mkF 2 6 d__law_draw) [.nm 1, .ex (eOp fPow [.ex (eC (.int 10)), .ex (eC (.int 9))])])]))
    (sSeq (sAsg 12 (eOp fFdiv [.ex (eOp fMul [.nm 11, .ex (eOp fSub [.nm 11, .ex (eC (.int 1))])]), .ex (eC (.int 2))]))
    (sSeq (sAsg 5 (eOp fIx [.ex (eSeq mkLst [eC (.int 1), eVar 11, eOp fAdd [.ex (eC (.int 1)), .ex (eCall (mkF 2 6 d__law_draw) [.nm 1, .ex (eOp fPow [.ex (eC (.int 10)), .ex (eC (.int 9))])])], eOp fSub [.nm 11, .ex (eCall (mkF 2 6 d__law_draw) [.nm 1, .ex (eOp fPow [.ex (eC (.int 10)), .ex (eC (.int 6))])])]]), .ex (eCall (mkF 2 6 d__law_draw) [.nm 1, .ex (eC (.int 4))])]))
    (sSeq (sAsg 7 (eOp fSub [.ex (eOp fAdd [.nm 12, .nm 11]), .nm 5]))
    (sSeq (sIf (eOr (eOp fNe [.ex (eOp fSub [.ex (eCall (mkF 1 1 d_lines_sung) [.nm 11]), .ex (eCall (mkF 1 1 d_lines_sung) [.ex (eOp fSub [.nm 11, .ex (eC (.int 1))])])]), .nm 11]) (eOr (eOp fNe [.ex (eCall (mkF 1 1 d_lines_sung) [.ex (eOp fSub [.nm 11, .ex (eC (.int 1))])]), .nm 12]) (eOr (eOp fNe [.ex (eCall (mkF 1 2 d_thing_at) [.nm 7]), .ex (eSeq mkTup [eVar 11, eVar 5])]) (eOr (eOp fNe [.ex (eCall (mkF 1 2 d_thing_at) [.nm 12]), .ex (eSeq mkTup [eVar 11, eVar 11])]) (eOp fNe [.ex (eCall (mkF 1 2 d_thing_at) [.ex (eOp fSub [.nm 12, .ex (eC (.int 1))])]), .ex (eSeq mkTup [eOp fSub [.nm 11, .ex (eC (.int 1))], eC (.int 1)])]))))) (sRet (eC (.bl false))) (sNil))
    (sSeq (sIf (eOr (eOp fNe [.ex (eCall (mkF 2 2 d_sung_of) [.nm 11, .nm 5]), .ex (eOp fAdd [.ex (eOp fSub [.nm 11, .nm 5]), .ex (eC (.int 1))])]) (eOr (eOp fNe [.ex (eCall (mkF 2 4 d_next_line_of) [.nm 5, .nm 7]), .nm 7]) (eOp fNe [.ex (eCall (mkF 2 4 d_next_line_of) [.nm 5, .ex (eOp fAdd [.nm 7, .ex (eC (.int 1))])]), .ex (eOp fSub [.ex (eOp fAdd [.ex (eOp fAdd [.ex (eOp fAdd [.nm 12, .nm 11]), .nm 11]), .ex (eC (.int 1))]), .nm 5])]))) (sRet (eC (.bl false))) (sNil))
    (sSeq (sIf (eOp fNe [.ex (eCall (mkF 2 4 d_next_line_of) [.ex (eOp fAdd [.nm 11, .ex (eC (.int 5))]), .ex (eCall (mkF 2 6 d__law_draw) [.nm 1, .ex (eOp fPow [.ex (eC (.int 10)), .ex (eC (.int 9))])])]), .ex (eOp fFdiv [.ex (eOp fMul [.ex (eOp fAdd [.nm 11, .ex (eC (.int 5))]), .ex (eOp fAdd [.nm 11, .ex (eC (.int 4))])]), .ex (eC (.int 2))])]) (sRet (eC (.bl false))) (sNil))
    (sSeq (sAsg 13 (eSeq mkLst [eCall (mkF 3 4 d__law_asked) [.ex (eC (.int 0)), .ex (eOp fNeg [.ex (eC (.int 1))]), .ex (eC (.int 0))], eCall (mkF 3 4 d__law_asked) [.ex (eC (.int 1)), .ex (eOp fNeg [.ex (eC (.int 1))]), .ex (eC (.int 0))], eCall (mkF 3 4 d__law_asked) [.ex (eC (.int 2)), .ex (eOp fNeg [.ex (eC (.int 1))]), .ex (eC (.int 1))], eCall (mkF 3 4 d__law_asked) [.ex (eC (.int 2)), .ex (eC (.int 1)), .ex (eC (.int 0))], eCall (mkF 3 4 d__law_asked) [.ex (eC (.int 3)), .ex (eC (.int 0)), .ex (eC (.int 0))], eCall (mkF 3 4 d__law_asked) [.ex (eC (.int 3)), .ex (eC (.int 1)), .ex (eOp fNeg [.ex (eC (.int 1))])]]))
    (sRet (eOp fEq [.nm 13, .ex (eOp fMul [.ex (eSeq mkLst [eC (.str "OutOfRange")]), .ex (eC (.int 6))])])))))))))))))))
structure Txt (K : PySem.W.Frag) (mg : Str → Option Value) (cl : Nat → Addr) (fs : Nat → Addr) (fds : Nat → FuncData) : Prop where
  b_abs : mg "abs" = none
  b_bool : mg "bool" = none
  b_int : mg "int" = none
  b_isinstance : mg "isinstance" = none
  b_len : mg "len" = none
  b_max : mg "max" = none
  b_range : mg "range" = none
  m_isqrt : mg "isqrt" = some (.builtin "math.isqrt")
  d__law_open : DefK K mg "_law_open" s__law_open (fs 0) (fds 0) ["script"]
  d_is_number : DefK K mg "is_number" s_is_number (fs 1) (fds 1) ["value", "least", "most"]
  d_check : DefK K mg "check" s_check (fs 2) (fds 2) ["number", "least"]
  d_lines_sung : DefK K mg "lines_sung" s_lines_sung (fs 3) (fds 3) ["verses"]
  d_thing_at : DefK K mg "thing_at" s_thing_at (fs 4) (fds 4) ["line"]
  d_sung_of : DefK K mg "sung_of" s_sung_of (fs 5) (fds 5) ["verses", "thing"]
  d_line_of : DefK K mg "line_of" s_line_of (fs 6) (fds 6) ["verse", "thing"]
  d_next_line_of : DefK K mg "next_line_of" s_next_line_of (fs 7) (fds 7) ["thing", "line"]
  d__law_told : DefK K mg "_law_told" s__law_told (fs 8) (fds 8) ["error"]
  d__law_asked : DefK K mg "_law_asked" s__law_asked (fs 9) (fds 9) ["what", "a", "b"]
  d__law_mixed : DefK K mg "_law_mixed" s__law_mixed (fs 10) (fds 10) ["cell", "turn"]
  d__law_draw : DefK K mg "_law_draw" s__law_draw (fs 11) (fds 11) ["draws", "size"]
  d__law_int : DefK K mg "_law_int" s__law_int (fs 12) (fds 12) ["value"]
  d_law : DefK K mg "law" s_law (fs 13) (fds 13) ["script"]
  e0 : ErrK K mg "PlayError" (cl 0)
  e1 : ErrK K mg "OutOfRange" (cl 1)
  e2 : ErrK K mg "Malformed" (cl 2)
  e3 : ErrK K mg "NotThere" (cl 3)
  e4 : ErrK K mg "Refused" (cl 4)
  e5 : ErrK K mg "TooMuch" (cl 5)
  exm0 : ∀ e, PySem.W.exmOne K (.ref (cl e)) (.ref (cl 0)) = some (subC e 0)
  kit0 : ∀ e, PySem.W.kitOne K (.ref (cl e)) (.ref (cl 0)) = some (subC e 0)
  kit1 : ∀ e, PySem.W.kitOne K (.ref (cl e)) (.ref (cl 1)) = some (subC e 1)
  kit2 : ∀ e, PySem.W.kitOne K (.ref (cl e)) (.ref (cl 2)) = some (subC e 2)
  kit3 : ∀ e, PySem.W.kitOne K (.ref (cl e)) (.ref (cl 3)) = some (subC e 3)
  kit4 : ∀ e, PySem.W.kitOne K (.ref (cl e)) (.ref (cl 4)) = some (subC e 4)
  kit5 : ∀ e, PySem.W.kitOne K (.ref (cl e)) (.ref (cl 5)) = some (subC e 5)
  exc : ∀ e, ExcC K (cl e)
section
variable {P : Program} {w : World} {K : PySem.W.Frag} {mg : Str → Option Value} {base : Heap} {cl : Nat → Addr} {fs : Nat → Addr} {fds : Nat → FuncData}
theorem ok__law_open (T : Txt K mg cl fs fds) : FnOk P w K mg base (L2N.CX P w) 1 (fs 0) (fds 0) ["script"] (spF (GG K cl) (mkF 1 3 d__law_open)) :=
  okF T.d__law_open.F sc__law_open (fun cdv A outer s H E hr => by
    have tk0 := L2N.takes_of (X := cxOf (L2N.CX P w) P w K mg base N__law_open "_law_open" (defScope s__law_open) (fs 0) cdv A outer s H E) (E := E) rfl rfl rfl rfl
    exact (sss_cons (ss_lc (i := 1) (inBlk_calm rfl) sc__law_open.nd rfl rfl (sw_true rfl rfl rfl (by decide +kernel)) (.of (si_any rfl (se_sl2 rfl (pv 0) se_int))) (blkOk_by (own := [("cell", 2)]) (N := N__law_open) (sc := defScope s__law_open) (by decide +kernel)) rfl (by decide) (fun _ _ _ _ _ _ hx => (sg_name (i := 2) sc__law_open.nd rfl (.inl rfl))) (fun _ _ _ _ _ _ hx => ts_none) (fun _ _ _ _ _ _ hx => (se_callB call_abs k_abs rfl T.b_abs PyProof.Rows.boot_abs (as_cons (se_callT call_int1 k_int rfl T.b_int PyProof.Rows.boot_int (as_cons (pv 2) as_nil)) as_nil))))
    (sss_one (ss_ret (se_lst (as_ex se_int (as_ex se_int (as_ex (se_add rfl (pv 1) (se_lst (as_ex se_int as_ex_nil))) as_ex_nil))))))))
theorem ok_is_number (T : Txt K mg cl fs fds) : FnOk P w K mg base (L2N.CX P w) 1 (fs 1) (fds 1) ["value", "least", "most"] (spF (GG K cl) (mkF 3 3 d_is_number)) :=
  okF T.d_is_number.F sc_is_number (fun cdv A outer s H E hr => by
    have tk0 := L2N.takes_of (X := cxOf (L2N.CX P w) P w K mg base N_is_number "is_number" (defScope s_is_number) (fs 1) cdv A outer s H E) (E := E) rfl rfl rfl rfl
    exact (sss_one (ss_ret (se_and (se_isi (T := "int") rfl rfl T.b_isinstance (pv 0) (pe_tyB rfl T.b_int PyProof.Rows.boot_int)) (se_and (se_not rfl (se_isi (T := "bool") rfl rfl T.b_isinstance (pv 0) (pe_tyB rfl T.b_bool PyProof.Rows.boot_bool))) (se_one (se_chain op_le op_le (se_var (pv 1)) (se_var (pv 0)) (se_var (pv 2)))))))))
theorem ok_check (T : Txt K mg cl fs fds) : FnOk P w K mg base (L2N.CX P w) 2 (fs 2) (fds 2) ["number", "least"] (spF (GG K cl) (mkF 2 2 d_check)) :=
  okF T.d_check.F sc_check (fun cdv A outer s H E hr => by
    have tk0 := L2N.takes_of (X := cxOf (L2N.CX P w) P w K mg base N_check "check" (defScope s_check) (fs 2) cdv A outer s H E) (E := E) rfl rfl rfl rfl
    exact (sss_one (ss_if (st_not (st_tru rfl (se_call (ok_is_number T) (Room.mono hr (by decide)) rfl T.d_is_number.g T.d_is_number.F.kp T.d_is_number.b tk0 (as_cons (pv 0) (as_cons (pv 1) (as_cons (se_callB (call_max2 rfl) k_max2 rfl T.b_max PyProof.Rows.boot_max (as_cons (pv 0) (as_cons (pv 1) as_nil))) as_nil)))))) (sss_one (ss_raise (n := 1) rfl tk0 T.e1.at rfl)) sss_nil)))
theorem ok_lines_sung (T : Txt K mg cl fs fds) : FnOk P w K mg base (L2N.CX P w) 3 (fs 3) (fds 3) ["verses"] (spF (GG K cl) (mkF 1 1 d_lines_sung)) :=
  okF T.d_lines_sung.F sc_lines_sung (fun cdv A outer s H E hr => by
    have tk0 := L2N.takes_of (X := cxOf (L2N.CX P w) P w K mg base N_lines_sung "lines_sung" (defScope s_lines_sung) (fs 3) cdv A outer s H E) (E := E) rfl rfl rfl rfl
    exact (sss_cons (ss_expr (se_call (ok_check T) (Room.mono hr (by decide)) rfl T.d_check.g T.d_check.F.kp T.d_check.b tk0 (as_cons (pv 0) (as_cons se_int as_nil))))
    (sss_one (ss_ret (se_fdiv (se_mul rfl (pv 0) (se_add rfl (pv 0) se_int)) se_int)))))
theorem ok_thing_at (T : Txt K mg cl fs fds) : FnOk P w K mg base (L2N.CX P w) 4 (fs 4) (fds 4) ["line"] (spF (GG K cl) (mkF 1 2 d_thing_at)) :=
  okF T.d_thing_at.F sc_thing_at (fun cdv A outer s H E hr => by
    have tk0 := L2N.takes_of (X := cxOf (L2N.CX P w) P w K mg base N_thing_at "thing_at" (defScope s_thing_at) (fs 4) cdv A outer s H E) (E := E) rfl rfl rfl rfl
    exact (sss_cons (ss_expr (se_call (ok_check T) (Room.mono hr (by decide)) rfl T.d_check.g T.d_check.F.kp T.d_check.b tk0 (as_cons (pv 0) (as_cons se_int as_nil))))
    (sss_cons (ss_asg (i := 1) sc_thing_at.nd rfl (.inl rfl) (se_fdiv (se_add rfl (se_callG cr_isqrt k_isqrt rfl T.m_isqrt (as_cons (se_add rfl (se_mul rfl se_int (pv 0)) se_int) as_nil)) se_int) se_int))
    (sss_one (ss_ret (se_tup (as_ex (se_var (pv 1)) (as_ex (se_sub (pv 1) (se_sub (pv 0) (se_call (ok_lines_sung T) (Room.mono hr (by decide)) rfl T.d_lines_sung.g T.d_lines_sung.F.kp T.d_lines_sung.b tk0 (as_cons (se_sub (pv 1) se_int) as_nil)))) as_ex_nil))))))))
theorem ok_sung_of (T : Txt K mg cl fs fds) : FnOk P w K mg base (L2N.CX P w) 3 (fs 5) (fds 5) ["verses", "thing"] (spF (GG K cl) (mkF 2 2 d_sung_of)) :=
  okF T.d_sung_of.F sc_sung_of (fun cdv A outer s H E hr => by
    have tk0 := L2N.takes_of (X := cxOf (L2N.CX P w) P w K mg base N_sung_of "sung_of" (defScope s_sung_of) (fs 5) cdv A outer s H E) (E := E) rfl rfl rfl rfl
    exact (sss_cons (ss_expr (se_call (ok_check T) (Room.mono hr (by decide)) rfl T.d_check.g T.d_check.F.kp T.d_check.b tk0 (as_cons (pv 0) (as_cons se_int as_nil))))
    (sss_cons (ss_expr (se_call (ok_check T) (Room.mono hr (by decide)) rfl T.d_check.g T.d_check.F.kp T.d_check.b tk0 (as_cons (pv 1) (as_cons se_int as_nil))))
    (sss_one (ss_ret (se_callB (call_max2 rfl) k_max2 rfl T.b_max PyProof.Rows.boot_max (as_cons se_int (as_cons (se_add rfl (se_sub (pv 0) (pv 1)) se_int) as_nil))))))))
theorem ok_line_of (T : Txt K mg cl fs fds) : FnOk P w K mg base (L2N.CX P w) 4 (fs 6) (fds 6) ["verse", "thing"] (spF (GG K cl) (mkF 2 2 d_line_of)) :=
  okF T.d_line_of.F sc_line_of (fun cdv A outer s H E hr => by
    have tk0 := L2N.takes_of (X := cxOf (L2N.CX P w) P w K mg base N_line_of "line_of" (defScope s_line_of) (fs 6) cdv A outer s H E) (E := E) rfl rfl rfl rfl
    exact (sss_one (ss_ret (se_sub (se_add rfl (se_call (ok_lines_sung T) (Room.mono hr (by decide)) rfl T.d_lines_sung.g T.d_lines_sung.F.kp T.d_lines_sung.b tk0 (as_cons (se_sub (pv 0) se_int) as_nil)) (pv 0)) (pv 1)))))
theorem ok_next_line_of (T : Txt K mg cl fs fds) : FnOk P w K mg base (L2N.CX P w) 5 (fs 7) (fds 7) ["thing", "line"] (spF (GG K cl) (mkF 2 4 d_next_line_of)) :=
  okF T.d_next_line_of.F sc_next_line_of (fun cdv A outer s H E hr => by
    have tk0 := L2N.takes_of (X := cxOf (L2N.CX P w) P w K mg base N_next_line_of "next_line_of" (defScope s_next_line_of) (fs 7) cdv A outer s H E) (E := E) rfl rfl rfl rfl
    exact (sss_cons (ss_expr (se_call (ok_check T) (Room.mono hr (by decide)) rfl T.d_check.g T.d_check.F.kp T.d_check.b tk0 (as_cons (pv 0) (as_cons se_int as_nil))))
    (sss_cons (ss_expr (se_call (ok_check T) (Room.mono hr (by decide)) rfl T.d_check.g T.d_check.F.kp T.d_check.b tk0 (as_cons (pv 1) (as_cons se_int as_nil))))
    (sss_cons (ss_asg (i := 2) sc_next_line_of.nd rfl (.inl rfl) (se_callB (call_max2 rfl) k_max2 rfl T.b_max PyProof.Rows.boot_max (as_cons (pv 0) (as_cons (se_at rfl (se_call (ok_thing_at T) (Room.mono hr (by decide)) rfl T.d_thing_at.g T.d_thing_at.F.kp T.d_thing_at.b tk0 (as_cons (pv 1) as_nil)) se_int) as_nil))))
    (sss_cons (ss_asg (i := 3) sc_next_line_of.nd rfl (.inl rfl) (se_call (ok_line_of T) (Room.mono hr (by decide)) rfl T.d_line_of.g T.d_line_of.F.kp T.d_line_of.b tk0 (as_cons (pv 2) (as_cons (pv 0) as_nil))))
    (sss_one (ss_ret (se_if (st_ge (pv 3) (pv 1)) (se_var (pv 3)) (se_call (ok_line_of T) (Room.mono hr (by decide)) rfl T.d_line_of.g T.d_line_of.F.kp T.d_line_of.b tk0 (as_cons (se_add rfl (pv 2) se_int) (as_cons (pv 0) as_nil)))))))))))
theorem okH__law_told (T : Txt K mg cl fs fds) : FnQ P w K mg base 1 (fs 8) (fds 8) ["error"] (spH (GG K cl) (mkF 1 5 d__law_told)) :=
  okH T.d__law_told.F sc__law_told (fun cdv A outer s H E p c hot hr hcl hdi => by
    have tk0 := L2N.takes_of (X := L2H.cxH (L2N.CX P w) P w K mg base N__law_told "_law_told" (defScope s__law_told) (fs 8) cdv A outer s H E p) (E := E) rfl rfl rfl rfl
    exact (sss_cons (ss_asg (i := 1) sc__law_told.nd rfl (.inl rfl) (se_lst (as_ex (se_tup (as_ex se_str (as_ex (se_isE (G := GG K cl) (p := p) (c := c) (k := 1) rfl List.mem_cons_self (T.exc _) ⟨hcl, hdi⟩ ⟨_, hot.2.choose_spec.1⟩ (T.kit1 _) rfl T.b_isinstance (pv 0) (pe_clsE rfl T.e1)) as_ex_nil))) (as_ex (se_tup (as_ex se_str (as_ex (se_isE (G := GG K cl) (p := p) (c := c) (k := 2) rfl List.mem_cons_self (T.exc _) ⟨hcl, hdi⟩ ⟨_, hot.2.choose_spec.1⟩ (T.kit2 _) rfl T.b_isinstance (pv 0) (pe_clsE rfl T.e2)) as_ex_nil))) (as_ex (se_tup (as_ex se_str (as_ex (se_isE (G := GG K cl) (p := p) (c := c) (k := 3) rfl List.mem_cons_self (T.exc _) ⟨hcl, hdi⟩ ⟨_, hot.2.choose_spec.1⟩ (T.kit3 _) rfl T.b_isinstance (pv 0) (pe_clsE rfl T.e3)) as_ex_nil))) (as_ex (se_tup (as_ex se_str (as_ex (se_isE (G := GG K cl) (p := p) (c := c) (k := 4) rfl List.mem_cons_self (T.exc _) ⟨hcl, hdi⟩ ⟨_, hot.2.choose_spec.1⟩ (T.kit4 _) rfl T.b_isinstance (pv 0) (pe_clsE rfl T.e4)) as_ex_nil))) (as_ex (se_tup (as_ex se_str (as_ex (se_isE (G := GG K cl) (p := p) (c := c) (k := 5) rfl List.mem_cons_self (T.exc _) ⟨hcl, hdi⟩ ⟨_, hot.2.choose_spec.1⟩ (T.kit5 _) rfl T.b_isinstance (pv 0) (pe_clsE rfl T.e5)) as_ex_nil))) as_ex_nil)))))))
    (sss_cons (ss_lc (i := 2) (inBlk_qt (.inr ⟨p, hot, List.mem_cons_self⟩)) sc__law_told.nd rfl rfl (sw_true rfl rfl rfl (by decide +kernel)) (si_listQ rfl (se_var (pv 1))) (blkOk_by (own := [("name", 3), ("true", 4)]) (N := N__law_told) (sc := defScope s__law_told) (by decide +kernel)) rfl (by decide) (fun _ _ _ _ _ _ hx => (sg_tt rfl (inBlk_qt (.inr ⟨p, hot, List.mem_cons_self⟩) _ _ _ _ _ _ hx) (sgs_cons (i := 3) sc__law_told.nd rfl (.inl rfl) (sgs_cons (i := 4) sc__law_told.nd rfl (.inl rfl) sgs_nil)))) (fun _ _ _ _ _ _ hx => (pts_one (st_tru rfl (pv 4)))) (fun _ _ _ _ _ _ hx => (se_var (pv 3))))
    (sss_cons (ss_if (st_of (sw_or (st_ne rfl (hu64H hr) (se_callB call_len (k_len rfl) rfl T.b_len PySem.boot_len (as_cons (pv 2) as_nil)) se_int) (sw_one_or (st_not (st_tru rfl (se_isE (G := GG K cl) (p := p) (c := c) (k := 0) rfl List.mem_cons_self (T.exc _) ⟨hcl, hdi⟩ ⟨_, hot.2.choose_spec.1⟩ (T.kit0 _) rfl T.b_isinstance (pv 0) (pe_clsE rfl T.e0))))))) (sss_one (ss_ret se_str)) sss_nil)
    (sss_one (ss_ret (se_at rfl (pv 2) se_int)))))))
theorem ok__law_asked (T : Txt K mg cl fs fds) : FnOk P w K mg base (L2N.CX P w) 6 (fs 9) (fds 9) ["what", "a", "b"] (spF (GG K cl) (mkF 3 4 d__law_asked)) :=
  okF T.d__law_asked.F sc__law_asked (fun cdv A outer s H E hr => by
    have tk0 := L2N.takes_of (X := cxOf (L2N.CX P w) P w K mg base N__law_asked "_law_asked" (defScope s__law_asked) (fs 9) cdv A outer s H E) (E := E) rfl rfl rfl rfl
    exact (sss_one (ss_try (G := GG K cl) (i := 3) (k := 0) rfl rfl sc__law_asked.nd rfl rfl ⟨rfl, by decide, .inl T.e0.gC⟩ tk0 rfl (fun e => T.exm0 e) (fun W1 pn1 xe1 tk1 hp1 => (sss_cons (ss_if (st_eq rfl (hu64 hr) (pv 0) se_int) (sss_one (ss_ret (se_call (ok_lines_sung T) (Room.mono hr (by decide)) rfl T.d_lines_sung.g T.d_lines_sung.F.kp T.d_lines_sung.b tk1 (as_cons (pv 1) as_nil)))) sss_nil)
    (sss_cons (ss_if (st_eq rfl (hu64 hr) (pv 0) se_int) (sss_one (ss_ret (se_call (ok_thing_at T) (Room.mono hr (by decide)) rfl T.d_thing_at.g T.d_thing_at.F.kp T.d_thing_at.b tk1 (as_cons (pv 1) as_nil)))) sss_nil)
    (sss_one (ss_ret (se_if (st_eq rfl (hu64 hr) (pv 0) se_int) (se_call (ok_sung_of T) (Room.mono hr (by decide)) rfl T.d_sung_of.g T.d_sung_of.F.kp T.d_sung_of.b tk1 (as_cons (pv 1) (as_cons (pv 2) as_nil))) (se_call (ok_next_line_of T) (Room.mono hr (by decide)) rfl T.d_next_line_of.g T.d_next_line_of.F.kp T.d_next_line_of.b tk1 (as_cons (pv 1) (as_cons (pv 2) as_nil))))))))) (fun a oe e pn hz hf => (sss_one (ss_ret (se_callH (G := GG K cl) (p := (a, oe)) (c := e) (okH__law_told T) (L2H.RoomH.mono (roomH hr) (by decide)) (hot_suite hz hf) List.mem_cons_self hz.1 hz.2.1 rfl T.d__law_told.g T.d__law_told.F.kp T.d__law_told.b tkF (as_cons (pv 3) as_nil))))))))
theorem ok__law_mixed (T : Txt K mg cl fs fds) : FnOk P w K mg base (L2N.CX P w) 1 (fs 10) (fds 10) ["cell", "turn"] (spF (GG K cl) (mkF 2 3 d__law_mixed)) :=
  okF T.d__law_mixed.F sc__law_mixed (fun cdv A outer s H E hr => by
    have tk0 := L2N.takes_of (X := cxOf (L2N.CX P w) P w K mg base N__law_mixed "_law_mixed" (defScope s__law_mixed) (fs 10) cdv A outer s H E) (E := E) rfl rfl rfl rfl
    exact (sss_cons (ss_asg (i := 2) sc__law_mixed.nd rfl (.inl rfl) (se_mod (se_add rfl (se_add rfl (se_mul rfl (se_mod (pv 0) (se_sub (se_pow se_int se_int) se_int)) se_int) (se_mul rfl (pv 1) se_int)) se_int) (se_pow se_int se_int)))
    (sss_cons (ss_asg (i := 2) sc__law_mixed.nd rfl (.inl rfl) (se_mod (se_mul rfl (se_xor (pv 2) (se_shr (pv 2) se_int)) se_int) (se_pow se_int se_int)))
    (sss_one (ss_ret (se_mod (se_mul rfl (se_xor (pv 2) (se_shr (pv 2) se_int)) se_int) (se_pow se_int se_int)))))))
theorem ok__law_draw (T : Txt K mg cl fs fds) : FnOk P w K mg base (L2N.CX P w) 2 (fs 11) (fds 11) ["draws", "size"] (spF (GG K cl) (mkF 2 6 d__law_draw)) :=
  okF T.d__law_draw.F sc__law_draw (fun cdv A outer s H E hr => by
    have tk0 := L2N.takes_of (X := cxOf (L2N.CX P w) P w K mg base N__law_draw "_law_draw" (defScope s__law_draw) (fs 11) cdv A outer s H E) (E := E) rfl rfl rfl rfl
    exact (sss_cons (ss_unp rfl rfl (sgs_cons (i := 2) sc__law_draw.nd rfl (.inl rfl) (sgs_cons (i := 3) sc__law_draw.nd rfl (.inl rfl) (sgs_cons (i := 4) sc__law_draw.nd rfl (.inl rfl) sgs_nil))) (pv 0))
    (sss_cons (ss_if (st_lt (pv 3) (pv 1)) (sss_cons (ss_asg (i := 5) sc__law_draw.nd rfl (.inl rfl) (se_at rfl (pv 4) (se_mod (pv 2) (se_callB call_len (k_len rfl) rfl T.b_len PySem.boot_len (as_cons (pv 4) as_nil)))))
    (sss_cons (ss_asg (i := 3) sc__law_draw.nd rfl (.inl rfl) (se_if (st_of (sw_and (st_lt (pv 2) (se_callB call_len (k_len rfl) rfl T.b_len PySem.boot_len (as_cons (pv 4) as_nil))) (sw_one_and (st_ge (pv 5) (se_pow se_int se_int))))) (se_var (pv 5)) (se_call (ok__law_mixed T) (Room.mono hr (by decide)) rfl T.d__law_mixed.g T.d__law_mixed.F.kp T.d__law_mixed.b tk0 (as_cons (pv 5) (as_cons (pv 2) as_nil)))))
    (sss_one (ss_asg (i := 2) sc__law_draw.nd rfl (.inl rfl) (se_add rfl (pv 2) se_int))))) sss_nil)
    (sss_cons (ss_setIx (pv 0) se_int (se_var (pv 2)))
    (sss_cons (ss_setIx (pv 0) se_int (se_fdiv (pv 3) (pv 1)))
    (sss_one (ss_ret (se_mod (pv 3) (pv 1)))))))))
theorem ok__law_int (T : Txt K mg cl fs fds) : FnOk P w K mg base (L2N.CX P w) 1 (fs 12) (fds 12) ["value"] (spF (GG K cl) (mkF 1 1 d__law_int)) :=
  okF T.d__law_int.F sc__law_int (fun cdv A outer s H E hr => by
    have tk0 := L2N.takes_of (X := cxOf (L2N.CX P w) P w K mg base N__law_int "_law_int" (defScope s__law_int) (fs 12) cdv A outer s H E) (E := E) rfl rfl rfl rfl
    exact (sss_one (ss_ret (se_and (se_isi (T := "int") rfl rfl T.b_isinstance (pv 0) (pe_tyB rfl T.b_int PyProof.Rows.boot_int)) (se_one (se_not rfl (se_isi (T := "bool") rfl rfl T.b_isinstance (pv 0) (pe_tyB rfl T.b_bool PyProof.Rows.boot_bool))))))))
theorem ok_law (T : Txt K mg cl fs fds) : FnOk P w K mg base (L2N.CX P w) 7 (fs 13) (fds 13) ["script"] (spF (GG K cl) (mkF 1 14 d_law)) :=
  okF T.d_law.F sc_law (fun cdv A outer s H E hr => by
    have tk0 := L2N.takes_of (X := cxOf (L2N.CX P w) P w K mg base N_law "law" (defScope s_law) (fs 13) cdv A outer s H E) (E := E) rfl rfl rfl rfl
    exact (sss_cons (ss_asg (i := 1) sc_law.nd rfl (.inl rfl) (se_call (ok__law_open T) (Room.mono hr (by decide)) rfl T.d__law_open.g T.d__law_open.F.kp T.d__law_open.b tk0 (as_cons (pv 0) as_nil)))
    (sss_cons (ss_parN rfl (pns_cons (i := 2) sc_law.nd rfl (.inl rfl) (pns_cons (i := 3) sc_law.nd rfl (.inr rfl) pns_nil)) (as_ex (se_add rfl se_int (se_call (ok__law_draw T) (Room.mono hr (by decide)) rfl T.d__law_draw.g T.d__law_draw.F.kp T.d__law_draw.b tk0 (as_cons (pv 1) (as_cons se_int as_nil)))) (as_ex (se_lst as_ex_nil) as_ex_nil)))
    (sss_cons (ss_for (L2.passes_of rfl) rfl (si_range2 rfl T.b_range se_int (se_add rfl (pv 2) se_int)) (sg_name (i := 4) sc_law.nd rfl (.inl rfl)) (sss_one (ss_for (L2.passes_of rfl) rfl (si_range1 rfl T.b_range (se_var (pv 4))) (sg_name (i := 5) sc_law.nd rfl (.inr rfl)) (sss_one (ss_expr (se_append (pv 3) (se_tup (as_ex (se_var (pv 4)) (as_ex (se_sub (pv 4) (pv 5)) as_ex_nil)))))))))
    (sss_cons (ss_if (st_of (sw_or (st_ne rfl (hu64 hr) (se_call (ok__law_asked T) (Room.mono hr (by decide)) rfl T.d__law_asked.g T.d__law_asked.F.kp T.d__law_asked.b tk0 (as_cons se_int (as_cons (pv 2) (as_cons se_int as_nil)))) (se_callB call_len (k_len rfl) rfl T.b_len PySem.boot_len (as_cons (pv 3) as_nil))) (sw_or (st_not (st_tru rfl (se_call (ok__law_int T) (Room.mono hr (by decide)) rfl T.d__law_int.g T.d__law_int.F.kp T.d__law_int.b tk0 (as_cons (se_call (ok_lines_sung T) (Room.mono hr (by decide)) rfl T.d_lines_sung.g T.d_lines_sung.F.kp T.d_lines_sung.b tk0 (as_cons (pv 2) as_nil)) as_nil)))) (sw_one_or (st_ne rfl (hu64 hr) (se_call (ok_lines_sung T) (Room.mono hr (by decide)) rfl T.d_lines_sung.g T.d_lines_sung.F.kp T.d_lines_sung.b tk0 (as_cons se_int as_nil)) se_int))))) (sss_one (ss_ret se_bl)) sss_nil)
    (sss_cons (ss_for (L2.passes_of rfl) rfl (si_range1 rfl T.b_range se_int) (sg_name (i := 6) sc_law.nd rfl (.inl rfl)) (sss_cons (ss_asg (i := 7) sc_law.nd rfl (.inl rfl) (se_at rfl (se_lst (as_ex se_int (as_ex (se_sub (se_callB call_len (k_len rfl) rfl T.b_len PySem.boot_len (as_cons (pv 3) as_nil)) se_int) (as_ex (se_call (ok__law_draw T) (Room.mono hr (by decide)) rfl T.d__law_draw.g T.d__law_draw.F.kp T.d__law_draw.b tk0 (as_cons (pv 1) (as_cons (se_callB call_len (k_len rfl) rfl T.b_len PySem.boot_len (as_cons (pv 3) as_nil)) as_nil))) (as_ex (se_call (ok__law_draw T) (Room.mono hr (by decide)) rfl T.d__law_draw.g T.d__law_draw.F.kp T.d__law_draw.b tk0 (as_cons (pv 1) (as_cons (se_callB call_len (k_len rfl) rfl T.b_len PySem.boot_len (as_cons (pv 3) as_nil)) as_nil))) (as_ex (se_call (ok__law_draw T) (Room.mono hr (by decide)) rfl T.d__law_draw.g T.d__law_draw.F.kp T.d__law_draw.b tk0 (as_cons (pv 1) (as_cons (se_callB call_len (k_len rfl) rfl T.b_len PySem.boot_len (as_cons (pv 3) as_nil)) as_nil))) as_ex_nil)))))) (pv 6)))
    (sss_cons (ss_asg (i := 5) sc_law.nd rfl (.inr rfl) (se_add rfl se_int (se_call (ok__law_draw T) (Room.mono hr (by decide)) rfl T.d__law_draw.g T.d__law_draw.F.kp T.d__law_draw.b tk0 (as_cons (pv 1) (as_cons (pv 2) as_nil)))))
    (sss_cons (ss_if (st_of (sw_or (st_ne rfl (hu64 hr) (se_call (ok__law_asked T) (Room.mono hr (by decide)) rfl T.d__law_asked.g T.d__law_asked.F.kp T.d__law_asked.b tk0 (as_cons se_int (as_cons (pv 7) (as_cons se_int as_nil)))) (se_at rfl (pv 3) (pv 7))) (sw_or (st_ne rfl (hu64 hr) (se_call (ok__law_asked T) (Room.mono hr (by decide)) rfl T.d__law_asked.g T.d__law_asked.F.kp T.d__law_asked.b tk0 (as_cons se_int (as_cons (pv 2) (as_cons (pv 5) as_nil)))) (se_callB call_len (k_len rfl) rfl T.b_len PySem.boot_len (as_cons (se_lc (inBlk_calm rfl) sc_law.nd (.of (si_any rfl (se_var (pv 3)))) (blkOk_by (own := [("place", 8)]) (N := N_law) (sc := defScope s_law) (by decide +kernel)) rfl (by decide) (fun _ _ _ _ _ _ hx => (sg_name (i := 8) sc_law.nd rfl (.inl rfl))) (fun _ _ _ _ _ _ hx => (pts_one (st_eq rfl (hu64 hr) (se_at rfl (pv 8) se_int) (pv 5)))) (fun _ _ _ _ _ _ hx => (se_var (pv 8)))) as_nil))) (sw_one_or (st_not (st_tru rfl (se_call (ok__law_int T) (Room.mono hr (by decide)) rfl T.d__law_int.g T.d__law_int.F.kp T.d__law_int.b tk0 (as_cons (se_call (ok_sung_of T) (Room.mono hr (by decide)) rfl T.d_sung_of.g T.d_sung_of.F.kp T.d_sung_of.b tk0 (as_cons (pv 2) (as_cons (pv 5) as_nil))) as_nil)))))))) (sss_one (ss_ret se_bl)) sss_nil)
    (sss_cons (ss_lc (i := 9) (inBlk_calm rfl) sc_law.nd rfl rfl (sw_true rfl rfl rfl (by decide +kernel)) (.of (si_range2 rfl T.b_range (se_var (pv 7)) (se_callB call_len (k_len rfl) rfl T.b_len PySem.boot_len (as_cons (pv 3) as_nil)))) (blkOk_by (own := [("k", 10)]) (N := N_law) (sc := defScope s_law) (by decide +kernel)) rfl (by decide) (fun _ _ _ _ _ _ hx => (sg_name (i := 10) sc_law.nd rfl (.inl rfl))) (fun _ _ _ _ _ _ hx => (pts_one (st_eq rfl (hu64 hr) (se_at rfl (se_at rfl (pv 3) (pv 10)) se_int) (pv 5)))) (fun _ _ _ _ _ _ hx => (se_var (pv 10))))
    (sss_one (ss_if (st_of (sw_or (st_of (sw_and (st_ne rfl (hu64 hr) (pv 9) (se_lst as_ex_nil)) (sw_one_and (st_ne rfl (hu64 hr) (se_call (ok__law_asked T) (Room.mono hr (by decide)) rfl T.d__law_asked.g T.d__law_asked.F.kp T.d__law_asked.b tk0 (as_cons se_int (as_cons (pv 5) (as_cons (pv 7) as_nil)))) (se_at rfl (pv 9) se_int))))) (sw_one_or (st_not (st_tru rfl (se_call (ok__law_int T) (Room.mono hr (by decide)) rfl T.d__law_int.g T.d__law_int.F.kp T.d__law_int.b tk0 (as_cons (se_call (ok_next_line_of T) (Room.mono hr (by decide)) rfl T.d_next_line_of.g T.d_next_line_of.F.kp T.d_next_line_of.b tk0 (as_cons (pv 5) (as_cons (pv 7) as_nil))) as_nil))))))) (sss_one (ss_ret se_bl)) sss_nil)))))))
    (sss_cons (ss_if (st_ne rfl (hu64 hr) (se_call (ok__law_asked T) (Room.mono hr (by decide)) rfl T.d__law_asked.g T.d__law_asked.F.kp T.d__law_asked.b tk0 (as_cons se_int (as_cons (pv 2) (as_cons (se_add rfl (se_add rfl (pv 2) se_int) (se_call (ok__law_draw T) (Room.mono hr (by decide)) rfl T.d__law_draw.g T.d__law_draw.F.kp T.d__law_draw.b tk0 (as_cons (pv 1) (as_cons (se_pow se_int se_int) as_nil)))) as_nil)))) se_int) (sss_one (ss_ret se_bl)) sss_nil)
    (sss_cons (ss_asg (i := 11) sc_law.nd rfl (.inl rfl) (se_add rfl (se_pow se_int se_int) (se_call (ok__law_draw T) (Room.mono hr (by decide)) rfl T.d__law_draw.g T.d__law_draw.F.kp T.d__law_draw.b tk0 (as_cons (pv 1) (as_cons (se_pow se_int se_int) as_nil)))))
    (sss_cons (ss_asg (i := 12) sc_law.nd rfl (.inl rfl) (se_fdiv (se_mul rfl (pv 11) (se_sub (pv 11) se_int)) se_int))
    (sss_cons (ss_asg (i := 5) sc_law.nd rfl (.inr rfl) (se_at rfl (se_lst (as_ex se_int (as_ex (se_var (pv 11)) (as_ex (se_add rfl se_int (se_call (ok__law_draw T) (Room.mono hr (by decide)) rfl T.d__law_draw.g T.d__law_draw.F.kp T.d__law_draw.b tk0 (as_cons (pv 1) (as_cons (se_pow se_int se_int) as_nil)))) (as_ex (se_sub (pv 11) (se_call (ok__law_draw T) (Room.mono hr (by decide)) rfl T.d__law_draw.g T.d__law_draw.F.kp T.d__law_draw.b tk0 (as_cons (pv 1) (as_cons (se_pow se_int se_int) as_nil)))) as_ex_nil))))) (se_call (ok__law_draw T) (Room.mono hr (by decide)) rfl T.d__law_draw.g T.d__law_draw.F.kp T.d__law_draw.b tk0 (as_cons (pv 1) (as_cons se_int as_nil)))))
    (sss_cons (ss_asg (i := 7) sc_law.nd rfl (.inl rfl) (se_sub (se_add rfl (pv 12) (pv 11)) (pv 5)))
    (sss_cons (ss_if (st_of (sw_or (st_ne rfl (hu64 hr) (se_sub (se_call (ok_lines_sung T) (Room.mono hr (by decide)) rfl T.d_lines_sung.g T.d_lines_sung.F.kp T.d_lines_sung.b tk0 (as_cons (pv 11) as_nil)) (se_call (ok_lines_sung T) (Room.mono hr (by decide)) rfl T.d_lines_sung.g T.d_lines_sung.F.kp T.d_lines_sung.b tk0 (as_cons (se_sub (pv 11) se_int) as_nil))) (pv 11)) (sw_or (st_ne rfl (hu64 hr) (se_call (ok_lines_sung T) (Room.mono hr (by decide)) rfl T.d_lines_sung.g T.d_lines_sung.F.kp T.d_lines_sung.b tk0 (as_cons (se_sub (pv 11) se_int) as_nil)) (pv 12)) (sw_or (st_ne rfl (hu64 hr) (se_call (ok_thing_at T) (Room.mono hr (by decide)) rfl T.d_thing_at.g T.d_thing_at.F.kp T.d_thing_at.b tk0 (as_cons (pv 7) as_nil)) (se_tup (as_ex (se_var (pv 11)) (as_ex (se_var (pv 5)) as_ex_nil)))) (sw_or (st_ne rfl (hu64 hr) (se_call (ok_thing_at T) (Room.mono hr (by decide)) rfl T.d_thing_at.g T.d_thing_at.F.kp T.d_thing_at.b tk0 (as_cons (pv 12) as_nil)) (se_tup (as_ex (se_var (pv 11)) (as_ex (se_var (pv 11)) as_ex_nil)))) (sw_one_or (st_ne rfl (hu64 hr) (se_call (ok_thing_at T) (Room.mono hr (by decide)) rfl T.d_thing_at.g T.d_thing_at.F.kp T.d_thing_at.b tk0 (as_cons (se_sub (pv 12) se_int) as_nil)) (se_tup (as_ex (se_sub (pv 11) se_int) (as_ex se_int as_ex_nil)))))))))) (sss_one (ss_ret se_bl)) sss_nil)
    (sss_cons (ss_if (st_of (sw_or (st_ne rfl (hu64 hr) (se_call (ok_sung_of T) (Room.mono hr (by decide)) rfl T.d_sung_of.g T.d_sung_of.F.kp T.d_sung_of.b tk0 (as_cons (pv 11) (as_cons (pv 5) as_nil))) (se_add rfl (se_sub (pv 11) (pv 5)) se_int)) (sw_or (st_ne rfl (hu64 hr) (se_call (ok_next_line_of T) (Room.mono hr (by decide)) rfl T.d_next_line_of.g T.d_next_line_of.F.kp T.d_next_line_of.b tk0 (as_cons (pv 5) (as_cons (pv 7) as_nil))) (pv 7)) (sw_one_or (st_ne rfl (hu64 hr) (se_call (ok_next_line_of T) (Room.mono hr (by decide)) rfl T.d_next_line_of.g T.d_next_line_of.F.kp T.d_next_line_of.b tk0 (as_cons (pv 5) (as_cons (se_add rfl (pv 7) se_int) as_nil))) (se_sub (se_add rfl (se_add rfl (se_add rfl (pv 12) (pv 11)) (pv 11)) se_int) (pv 5))))))) (sss_one (ss_ret se_bl)) sss_nil)
    (sss_cons (ss_if (st_ne rfl (hu64 hr) (se_call (ok_next_line_of T) (Room.mono hr (by decide)) rfl T.d_next_line_of.g T.d_next_line_of.F.kp T.d_next_line_of.b tk0 (as_cons (se_add rfl (pv 11) se_int) (as_cons (se_call (ok__law_draw T) (Room.mono hr (by decide)) rfl T.d__law_draw.g T.d__law_draw.F.kp T.d__law_draw.b tk0 (as_cons (pv 1) (as_cons (se_pow se_int se_int) as_nil))) as_nil))) (se_fdiv (se_mul rfl (se_add rfl (pv 11) se_int) (se_add rfl (pv 11) se_int)) se_int)) (sss_one (ss_ret se_bl)) sss_nil)
    (sss_cons (ss_asg (i := 13) sc_law.nd rfl (.inl rfl) (se_lst (as_ex (se_call (ok__law_asked T) (Room.mono hr (by decide)) rfl T.d__law_asked.g T.d__law_asked.F.kp T.d__law_asked.b tk0 (as_cons se_int (as_cons (se_neg se_int) (as_cons se_int as_nil)))) (as_ex (se_call (ok__law_asked T) (Room.mono hr (by decide)) rfl T.d__law_asked.g T.d__law_asked.F.kp T.d__law_asked.b tk0 (as_cons se_int (as_cons (se_neg se_int) (as_cons se_int as_nil)))) (as_ex (se_call (ok__law_asked T) (Room.mono hr (by decide)) rfl T.d__law_asked.g T.d__law_asked.F.kp T.d__law_asked.b tk0 (as_cons se_int (as_cons (se_neg se_int) (as_cons se_int as_nil)))) (as_ex (se_call (ok__law_asked T) (Room.mono hr (by decide)) rfl T.d__law_asked.g T.d__law_asked.F.kp T.d__law_asked.b tk0 (as_cons se_int (as_cons se_int (as_cons se_int as_nil)))) (as_ex (se_call (ok__law_asked T) (Room.mono hr (by decide)) rfl T.d__law_asked.g T.d__law_asked.F.kp T.d__law_asked.b tk0 (as_cons se_int (as_cons se_int (as_cons se_int as_nil)))) (as_ex (se_call (ok__law_asked T) (Room.mono hr (by decide)) rfl T.d__law_asked.g T.d__law_asked.F.kp T.d__law_asked.b tk0 (as_cons se_int (as_cons se_int (as_cons (se_neg se_int) as_nil)))) as_ex_nil))))))))
    (sss_one (ss_ret (se_eq rfl (hu64 hr) (pv 13) (se_mul rfl (se_lst (as_ex se_str as_ex_nil)) se_int)))))))))))))))))))
end
theorem all_mk {l : PySem.W.OpenLaw} {w : World} {K : PySem.W.Frag} {h : Heap} {mg : Str → Option Value} {fa : Addr} (X : K.In h) (G : h.Ns mainGlobals mg) (hfa : mg "law" = some (.ref fa))
    (hlaw : ∀ ns : List Int, ns.length ≤ 63 → ∃ cs', mkF 1 14 d_law [vl (.frl (ns.map .int))] = .ok (vl (.bl true)) cs')
    {f0 f1 f2 f3 f4 f5 f6 f7 f8 f9 f10 f11 f12 f13 C0 C1 C2 C3 C4 C5 : Addr} {od0 an0 od1 an1 od2 an2 od3 an3 od4 an4 od5 an5 od6 an6 od7 an7 od8 an8 od9 an9 od10 an10 od11 an11 od12 an12 od13 an13 : Option Addr} {sl0 sl1 sl2 sl3 sl4 sl5 sl6 sl7 sl8 sl9 sl10 sl11 sl12 sl13 : Array (Option Value)} {oc0 kV0 dc0 pm0 cd0 ct0 oc1 kV1 dc1 pm1 cd1 ct1 oc2 kV2 dc2 pm2 cd2 ct2 oc3 kV3 dc3 pm3 cd3 ct3 oc4 kV4 dc4 pm4 cd4 ct4 oc5 kV5 dc5 pm5 cd5 ct5 oc6 kV6 dc6 pm6 cd6 ct6 oc7 kV7 dc7 pm7 cd7 ct7 oc8 kV8 dc8 pm8 cd8 ct8 oc9 kV9 dc9 pm9 cd9 ct9 oc10 kV10 dc10 pm10 cd10 ct10 oc11 kV11 dc11 pm11 cd11 ct11 oc12 kV12 dc12 pm12 cd12 ct12 oc13 kV13 dc13 pm13 cd13 ct13 : Value}
    (a0 : PySem.W.nsIn K mainGlobals "_law_open" = some (some (.ref f0)))
    (l0 : K.lookup f0 = some ⟨oc0, od0, .func (PySem.W.fnOf "_law_open" "_law_open" (defArgs s__law_open) (defBody s__law_open) (defScope s__law_open) .none kV0 dc0 pm0 an0 cd0 ct0), sl0⟩)
    (c0 : PySem.W.codeIn K cd0 "_law_open" = true)
    (k0 : PySem.W.keepIn K (.ref f0) = true)
    (a1 : PySem.W.nsIn K mainGlobals "is_number" = some (some (.ref f1)))
    (l1 : K.lookup f1 = some ⟨oc1, od1, .func (PySem.W.fnOf "is_number" "is_number" (defArgs s_is_number) (defBody s_is_number) (defScope s_is_number) .none kV1 dc1 pm1 an1 cd1 ct1), sl1⟩)
    (c1 : PySem.W.codeIn K cd1 "is_number" = true)
    (k1 : PySem.W.keepIn K (.ref f1) = true)
    (a2 : PySem.W.nsIn K mainGlobals "check" = some (some (.ref f2)))
    (l2 : K.lookup f2 = some ⟨oc2, od2, .func (PySem.W.fnOf "check" "check" (defArgs s_check) (defBody s_check) (defScope s_check) .none kV2 dc2 pm2 an2 cd2 ct2), sl2⟩)
    (c2 : PySem.W.codeIn K cd2 "check" = true)
    (k2 : PySem.W.keepIn K (.ref f2) = true)
    (a3 : PySem.W.nsIn K mainGlobals "lines_sung" = some (some (.ref f3)))
    (l3 : K.lookup f3 = some ⟨oc3, od3, .func (PySem.W.fnOf "lines_sung" "lines_sung" (defArgs s_lines_sung) (defBody s_lines_sung) (defScope s_lines_sung) .none kV3 dc3 pm3 an3 cd3 ct3), sl3⟩)
    (c3 : PySem.W.codeIn K cd3 "lines_sung" = true)
    (k3 : PySem.W.keepIn K (.ref f3) = true)
    (a4 : PySem.W.nsIn K mainGlobals "thing_at" = some (some (.ref f4)))
    (l4 : K.lookup f4 = some ⟨oc4, od4, .func (PySem.W.fnOf "thing_at" "thing_at" (defArgs s_thing_at) (defBody s_thing_at) (defScope s_thing_at) .none kV4 dc4 pm4 an4 cd4 ct4), sl4⟩)
    (c4 : PySem.W.codeIn K cd4 "thing_at" = true)
    (k4 : PySem.W.keepIn K (.ref f4) = true)
    (a5 : PySem.W.nsIn K mainGlobals "sung_of" = some (some (.ref f5)))
    (l5 : K.lookup f5 = some ⟨oc5, od5, .func (PySem.W.fnOf "sung_of" "sung_of" (defArgs s_sung_of) (defBody s_sung_of) (defScope s_sung_of) .none kV5 dc5 pm5 an5 cd5 ct5), sl5⟩)
    (c5 : PySem.W.codeIn K cd5 "sung_of" = true)
    (k5 : PySem.W.keepIn K (.ref f5) = true)
    (a6 : PySem.W.nsIn K mainGlobals "line_of" = some (some (.ref f6)))
    (l6 : K.lookup f6 = some ⟨oc6, od6, .func (PySem.W.fnOf "line_of" "line_of" (defArgs s_line_of) (defBody s_line_of) (defScope s_line_of) .none kV6 dc6 pm6 an6 cd6 ct6), sl6⟩)
    (c6 : PySem.W.codeIn K cd6 "line_of" = true)
    (k6 : PySem.W.keepIn K (.ref f6) = true)
    (a7 : PySem.W.nsIn K mainGlobals "next_line_of" = some (some (.ref f7)))
    (l7 : K.lookup f7 = some ⟨oc7, od7, .func (PySem.W.fnOf "next_line_of" "next_line_of" (defArgs s_next_line_of) (defBody s_next_line_of) (defScope s_next_line_of) .none kV7 dc7 pm7 an7 cd7 ct7), sl7⟩)
    (c7 : PySem.W.codeIn K cd7 "next_line_of" = true)
    (k7 : PySem.W.keepIn K (.ref f7) = true)
    (a8 : PySem.W.nsIn K mainGlobals "_law_told" = some (some (.ref f8)))
    (l8 : K.lookup f8 = some ⟨oc8, od8, .func (PySem.W.fnOf "_law_told" "_law_told" (defArgs s__law_told) (defBody s__law_told) (defScope s__law_told) .none kV8 dc8 pm8 an8 cd8 ct8), sl8⟩)
    (c8 : PySem.W.codeIn K cd8 "_law_told" = true)
    (k8 : PySem.W.keepIn K (.ref f8) = true)
    (a9 : PySem.W.nsIn K mainGlobals "_law_asked" = some (some (.ref f9)))
    (l9 : K.lookup f9 = some ⟨oc9, od9, .func (PySem.W.fnOf "_law_asked" "_law_asked" (defArgs s__law_asked) (defBody s__law_asked) (defScope s__law_asked) .none kV9 dc9 pm9 an9 cd9 ct9), sl9⟩)
    (c9 : PySem.W.codeIn K cd9 "_law_asked" = true)
    (k9 : PySem.W.keepIn K (.ref f9) = true)
    (a10 : PySem.W.nsIn K mainGlobals "_law_mixed" = some (some (.ref f10)))
    (l10 : K.lookup f10 = some ⟨oc10, od10, .func (PySem.W.fnOf "_law_mixed" "_law_mixed" (defArgs s__law_mixed) (defBody s__law_mixed) (defScope s__law_mixed) .none kV10 dc10 pm10 an10 cd10 ct10), sl10⟩)
    (c10 : PySem.W.codeIn K cd10 "_law_mixed" = true)
    (k10 : PySem.W.keepIn K (.ref f10) = true)
    (a11 : PySem.W.nsIn K mainGlobals "_law_draw" = some (some (.ref f11)))
    (l11 : K.lookup f11 = some ⟨oc11, od11, .func (PySem.W.fnOf "_law_draw" "_law_draw" (defArgs s__law_draw) (defBody s__law_draw) (defScope s__law_draw) .none kV11 dc11 pm11 an11 cd11 ct11), sl11⟩)
    (c11 : PySem.W.codeIn K cd11 "_law_draw" = true)
    (k11 : PySem.W.keepIn K (.ref f11) = true)
    (a12 : PySem.W.nsIn K mainGlobals "_law_int" = some (some (.ref f12)))
    (l12 : K.lookup f12 = some ⟨oc12, od12, .func (PySem.W.fnOf "_law_int" "_law_int" (defArgs s__law_int) (defBody s__law_int) (defScope s__law_int) .none kV12 dc12 pm12 an12 cd12 ct12), sl12⟩)
    (c12 : PySem.W.codeIn K cd12 "_law_int" = true)
    (k12 : PySem.W.keepIn K (.ref f12) = true)
    (a13 : PySem.W.nsIn K mainGlobals "law" = some (some (.ref f13)))
    (l13 : K.lookup f13 = some ⟨oc13, od13, .func (PySem.W.fnOf "law" "law" (defArgs s_law) (defBody s_law) (defScope s_law) .none kV13 dc13 pm13 an13 cd13 ct13), sl13⟩)
    (c13 : PySem.W.codeIn K cd13 "law" = true)
    (k13 : PySem.W.keepIn K (.ref f13) = true)
    (z_abs : PySem.W.nsIn K mainGlobals "abs" = some none)
    (z_bool : PySem.W.nsIn K mainGlobals "bool" = some none)
    (z_int : PySem.W.nsIn K mainGlobals "int" = some none)
    (z_isinstance : PySem.W.nsIn K mainGlobals "isinstance" = some none)
    (z_len : PySem.W.nsIn K mainGlobals "len" = some none)
    (z_max : PySem.W.nsIn K mainGlobals "max" = some none)
    (z_range : PySem.W.nsIn K mainGlobals "range" = some none)
    (y_isqrt : PySem.W.nsIn K mainGlobals "isqrt" = some (some (.builtin "math.isqrt")))
    (g0 : PySem.W.nsIn K mainGlobals "PlayError" = some (some (.ref C0)))
    (g1 : PySem.W.nsIn K mainGlobals "OutOfRange" = some (some (.ref C1)))
    (g2 : PySem.W.nsIn K mainGlobals "Malformed" = some (some (.ref C2)))
    (g3 : PySem.W.nsIn K mainGlobals "NotThere" = some (some (.ref C3)))
    (g4 : PySem.W.nsIn K mainGlobals "Refused" = some (some (.ref C4)))
    (g5 : PySem.W.nsIn K mainGlobals "TooMuch" = some (some (.ref C5)))
    (q0 : PySem.W.excIn K C0 [.type "ValueError", .type "Exception", .type "BaseException", .type "object"] "ValueError.__new__" = true)
    (kC0 : PySem.W.keepIn K (.ref C0) = true)
    (r0 : PySem.W.subIn K (.ref C0) (.type "BaseException") = some true)
    (t0 : PySem.W.typeIn K (.ref C0) = some (.type "type"))
    (q1 : PySem.W.excIn K C1 [.type "ValueError", .type "Exception", .type "BaseException", .type "object"] "ValueError.__new__" = true)
    (kC1 : PySem.W.keepIn K (.ref C1) = true)
    (r1 : PySem.W.subIn K (.ref C1) (.type "BaseException") = some true)
    (t1 : PySem.W.typeIn K (.ref C1) = some (.type "type"))
    (q2 : PySem.W.excIn K C2 [.type "ValueError", .type "Exception", .type "BaseException", .type "object"] "ValueError.__new__" = true)
    (kC2 : PySem.W.keepIn K (.ref C2) = true)
    (r2 : PySem.W.subIn K (.ref C2) (.type "BaseException") = some true)
    (t2 : PySem.W.typeIn K (.ref C2) = some (.type "type"))
    (q3 : PySem.W.excIn K C3 [.type "ValueError", .type "Exception", .type "BaseException", .type "object"] "ValueError.__new__" = true)
    (kC3 : PySem.W.keepIn K (.ref C3) = true)
    (r3 : PySem.W.subIn K (.ref C3) (.type "BaseException") = some true)
    (t3 : PySem.W.typeIn K (.ref C3) = some (.type "type"))
    (q4 : PySem.W.excIn K C4 [.type "ValueError", .type "Exception", .type "BaseException", .type "object"] "ValueError.__new__" = true)
    (kC4 : PySem.W.keepIn K (.ref C4) = true)
    (r4 : PySem.W.subIn K (.ref C4) (.type "BaseException") = some true)
    (t4 : PySem.W.typeIn K (.ref C4) = some (.type "type"))
    (q5 : PySem.W.excIn K C5 [.type "ValueError", .type "Exception", .type "BaseException", .type "object"] "ValueError.__new__" = true)
    (kC5 : PySem.W.keepIn K (.ref C5) = true)
    (r5 : PySem.W.subIn K (.ref C5) (.type "BaseException") = some true)
    (t5 : PySem.W.typeIn K (.ref C5) = some (.type "type"))
    (ic0 : PySem.W.isClsIn K C0 = true)
    (s0_0 : PySem.W.subIn K (.ref C0) (.ref C0) = some true)
    (s1_0 : PySem.W.subIn K (.ref C1) (.ref C0) = some true)
    (s2_0 : PySem.W.subIn K (.ref C2) (.ref C0) = some true)
    (s3_0 : PySem.W.subIn K (.ref C3) (.ref C0) = some true)
    (s4_0 : PySem.W.subIn K (.ref C4) (.ref C0) = some true)
    (s5_0 : PySem.W.subIn K (.ref C5) (.ref C0) = some true)
    (ic1 : PySem.W.isClsIn K C1 = true)
    (s0_1 : PySem.W.subIn K (.ref C0) (.ref C1) = some false)
    (s1_1 : PySem.W.subIn K (.ref C1) (.ref C1) = some true)
    (s2_1 : PySem.W.subIn K (.ref C2) (.ref C1) = some false)
    (s3_1 : PySem.W.subIn K (.ref C3) (.ref C1) = some false)
    (s4_1 : PySem.W.subIn K (.ref C4) (.ref C1) = some false)
    (s5_1 : PySem.W.subIn K (.ref C5) (.ref C1) = some false)
    (ic2 : PySem.W.isClsIn K C2 = true)
    (s0_2 : PySem.W.subIn K (.ref C0) (.ref C2) = some false)
    (s1_2 : PySem.W.subIn K (.ref C1) (.ref C2) = some false)
    (s2_2 : PySem.W.subIn K (.ref C2) (.ref C2) = some true)
    (s3_2 : PySem.W.subIn K (.ref C3) (.ref C2) = some false)
    (s4_2 : PySem.W.subIn K (.ref C4) (.ref C2) = some false)
    (s5_2 : PySem.W.subIn K (.ref C5) (.ref C2) = some false)
    (ic3 : PySem.W.isClsIn K C3 = true)
    (s0_3 : PySem.W.subIn K (.ref C0) (.ref C3) = some false)
    (s1_3 : PySem.W.subIn K (.ref C1) (.ref C3) = some false)
    (s2_3 : PySem.W.subIn K (.ref C2) (.ref C3) = some false)
    (s3_3 : PySem.W.subIn K (.ref C3) (.ref C3) = some true)
    (s4_3 : PySem.W.subIn K (.ref C4) (.ref C3) = some false)
    (s5_3 : PySem.W.subIn K (.ref C5) (.ref C3) = some false)
    (ic4 : PySem.W.isClsIn K C4 = true)
    (s0_4 : PySem.W.subIn K (.ref C0) (.ref C4) = some false)
    (s1_4 : PySem.W.subIn K (.ref C1) (.ref C4) = some false)
    (s2_4 : PySem.W.subIn K (.ref C2) (.ref C4) = some false)
    (s3_4 : PySem.W.subIn K (.ref C3) (.ref C4) = some false)
    (s4_4 : PySem.W.subIn K (.ref C4) (.ref C4) = some true)
    (s5_4 : PySem.W.subIn K (.ref C5) (.ref C4) = some false)
    (ic5 : PySem.W.isClsIn K C5 = true)
    (s0_5 : PySem.W.subIn K (.ref C0) (.ref C5) = some false)
    (s1_5 : PySem.W.subIn K (.ref C1) (.ref C5) = some false)
    (s2_5 : PySem.W.subIn K (.ref C2) (.ref C5) = some false)
    (s3_5 : PySem.W.subIn K (.ref C3) (.ref C5) = some false)
    (s4_5 : PySem.W.subIn K (.ref C4) (.ref C5) = some false)
    (s5_5 : PySem.W.subIn K (.ref C5) (.ref C5) = some true)
    (hn : PySem.W.specialIn K (.builtin "object.__class__") "__get__" = some (some (.builtin "getset_descriptor.__get__")))
    (ht : PySem.W.takesIn K (.builtin "object.__class__") = some true)
    (hg0 : PySem.W.findIn K (.ref C0) "__getattribute__" = some (some (.builtin "BaseException.__getattribute__")))
    (hk0 : PySem.W.findIn K (.ref C0) "__getattr__" = some none)
    (hs0 : PySem.W.subIn K (.ref C0) (.type "BaseException") = some true)
    (hd0 : PySem.W.hasDictIn K C0 = true)
    (ha0 : PySem.W.findIn K (.ref C0) "__class__" = some (some (.builtin "object.__class__")))
    (hm0 : PySem.W.mroIn K C0 (.type "object") = some true)
    (hg1 : PySem.W.findIn K (.ref C1) "__getattribute__" = some (some (.builtin "BaseException.__getattribute__")))
    (hk1 : PySem.W.findIn K (.ref C1) "__getattr__" = some none)
    (hs1 : PySem.W.subIn K (.ref C1) (.type "BaseException") = some true)
    (hd1 : PySem.W.hasDictIn K C1 = true)
    (ha1 : PySem.W.findIn K (.ref C1) "__class__" = some (some (.builtin "object.__class__")))
    (hm1 : PySem.W.mroIn K C1 (.type "object") = some true)
    (hg2 : PySem.W.findIn K (.ref C2) "__getattribute__" = some (some (.builtin "BaseException.__getattribute__")))
    (hk2 : PySem.W.findIn K (.ref C2) "__getattr__" = some none)
    (hs2 : PySem.W.subIn K (.ref C2) (.type "BaseException") = some true)
    (hd2 : PySem.W.hasDictIn K C2 = true)
    (ha2 : PySem.W.findIn K (.ref C2) "__class__" = some (some (.builtin "object.__class__")))
    (hm2 : PySem.W.mroIn K C2 (.type "object") = some true)
    (hg3 : PySem.W.findIn K (.ref C3) "__getattribute__" = some (some (.builtin "BaseException.__getattribute__")))
    (hk3 : PySem.W.findIn K (.ref C3) "__getattr__" = some none)
    (hs3 : PySem.W.subIn K (.ref C3) (.type "BaseException") = some true)
    (hd3 : PySem.W.hasDictIn K C3 = true)
    (ha3 : PySem.W.findIn K (.ref C3) "__class__" = some (some (.builtin "object.__class__")))
    (hm3 : PySem.W.mroIn K C3 (.type "object") = some true)
    (hg4 : PySem.W.findIn K (.ref C4) "__getattribute__" = some (some (.builtin "BaseException.__getattribute__")))
    (hk4 : PySem.W.findIn K (.ref C4) "__getattr__" = some none)
    (hs4 : PySem.W.subIn K (.ref C4) (.type "BaseException") = some true)
    (hd4 : PySem.W.hasDictIn K C4 = true)
    (ha4 : PySem.W.findIn K (.ref C4) "__class__" = some (some (.builtin "object.__class__")))
    (hm4 : PySem.W.mroIn K C4 (.type "object") = some true)
    (hg5 : PySem.W.findIn K (.ref C5) "__getattribute__" = some (some (.builtin "BaseException.__getattribute__")))
    (hk5 : PySem.W.findIn K (.ref C5) "__getattr__" = some none)
    (hs5 : PySem.W.subIn K (.ref C5) (.type "BaseException") = some true)
    (hd5 : PySem.W.hasDictIn K C5 = true)
    (ha5 : PySem.W.findIn K (.ref C5) "__class__" = some (some (.builtin "object.__class__")))
    (hm5 : PySem.W.mroIn K C5 (.type "object") = some true)
    : ∃ fd : FuncData, (∀ (s : Shared) (v : Value), BindsTo s fd ⟨[v], []⟩ [("script", v)]) ∧ ∀ base : Heap, K.In base → base.Ns mainGlobals mg → FnOk l.prog w K mg base (L2N.CX l.prog w) 7 fa fd ["script"] (Sm.spLaw K) := by
  have e := hfa.symm.trans (PySem.W.mg_of X G a13)
  cases e
  have F0 := fun_mk (st := s__law_open) l0 c0 k0
  have b0 := F0.binds (ps := ["script"]) fun _ _ _ _ _ _ us hl => match us, hl with | [_], _ => rfl
  have F1 := fun_mk (st := s_is_number) l1 c1 k1
  have b1 := F1.binds (ps := ["value", "least", "most"]) fun _ _ _ _ _ _ us hl => match us, hl with | [_, _, _], _ => rfl
  have F2 := fun_mk (st := s_check) l2 c2 k2
  have b2 := F2.binds (ps := ["number", "least"]) fun _ _ _ _ _ _ us hl => match us, hl with | [_, _], _ => rfl
  have F3 := fun_mk (st := s_lines_sung) l3 c3 k3
  have b3 := F3.binds (ps := ["verses"]) fun _ _ _ _ _ _ us hl => match us, hl with | [_], _ => rfl
  have F4 := fun_mk (st := s_thing_at) l4 c4 k4
  have b4 := F4.binds (ps := ["line"]) fun _ _ _ _ _ _ us hl => match us, hl with | [_], _ => rfl
  have F5 := fun_mk (st := s_sung_of) l5 c5 k5
  have b5 := F5.binds (ps := ["verses", "thing"]) fun _ _ _ _ _ _ us hl => match us, hl with | [_, _], _ => rfl
  have F6 := fun_mk (st := s_line_of) l6 c6 k6
  have b6 := F6.binds (ps := ["verse", "thing"]) fun _ _ _ _ _ _ us hl => match us, hl with | [_, _], _ => rfl
  have F7 := fun_mk (st := s_next_line_of) l7 c7 k7
  have b7 := F7.binds (ps := ["thing", "line"]) fun _ _ _ _ _ _ us hl => match us, hl with | [_, _], _ => rfl
  have F8 := fun_mk (st := s__law_told) l8 c8 k8
  have b8 := F8.binds (ps := ["error"]) fun _ _ _ _ _ _ us hl => match us, hl with | [_], _ => rfl
  have F9 := fun_mk (st := s__law_asked) l9 c9 k9
  have b9 := F9.binds (ps := ["what", "a", "b"]) fun _ _ _ _ _ _ us hl => match us, hl with | [_, _, _], _ => rfl
  have F10 := fun_mk (st := s__law_mixed) l10 c10 k10
  have b10 := F10.binds (ps := ["cell", "turn"]) fun _ _ _ _ _ _ us hl => match us, hl with | [_, _], _ => rfl
  have F11 := fun_mk (st := s__law_draw) l11 c11 k11
  have b11 := F11.binds (ps := ["draws", "size"]) fun _ _ _ _ _ _ us hl => match us, hl with | [_, _], _ => rfl
  have F12 := fun_mk (st := s__law_int) l12 c12 k12
  have b12 := F12.binds (ps := ["value"]) fun _ _ _ _ _ _ us hl => match us, hl with | [_], _ => rfl
  have F13 := fun_mk (st := s_law) l13 c13 k13
  have b13 := F13.binds (ps := ["script"]) fun _ _ _ _ _ _ us hl => match us, hl with | [_], _ => rfl
  have T : Txt K mg (cls6 C0 C1 C2 C3 C4 C5) (fun i => ([f0, f1, f2, f3, f4, f5, f6, f7, f8, f9, f10, f11, f12, fa] : List Addr).getD i f0) (fun i => ([PySem.W.fnOf "_law_open" "_law_open" (defArgs s__law_open) (defBody s__law_open) (defScope s__law_open) .none kV0 dc0 pm0 an0 cd0 ct0, PySem.W.fnOf "is_number" "is_number" (defArgs s_is_number) (defBody s_is_number) (defScope s_is_number) .none kV1 dc1 pm1 an1 cd1 ct1, PySem.W.fnOf "check" "check" (defArgs s_check) (defBody s_check) (defScope s_check) .none kV2 dc2 pm2 an2 cd2 ct2, PySem.W.fnOf "lines_sung" "lines_sung" (defArgs s_lines_sung) (defBody s_lines_sung) (defScope s_lines_sung) .none kV3 dc3 pm3 an3 cd3 ct3, PySem.W.fnOf "thing_at" "thing_at" (defArgs s_thing_at) (defBody s_thing_at) (defScope s_thing_at) .none kV4 dc4 pm4 an4 cd4 ct4, PySem.W.fnOf "sung_of" "sung_of" (defArgs s_sung_of) (defBody s_sung_of) (defScope s_sung_of) .none kV5 dc5 pm5 an5 cd5 ct5, PySem.W.fnOf "line_of" "line_of" (defArgs s_line_of) (defBody s_line_of) (defScope s_line_of) .none kV6 dc6 pm6 an6 cd6 ct6, PySem.W.fnOf "next_line_of" "next_line_of" (defArgs s_next_line_of) (defBody s_next_line_of) (defScope s_next_line_of) .none kV7 dc7 pm7 an7 cd7 ct7, PySem.W.fnOf "_law_told" "_law_told" (defArgs s__law_told) (defBody s__law_told) (defScope s__law_told) .none kV8 dc8 pm8 an8 cd8 ct8, PySem.W.fnOf "_law_asked" "_law_asked" (defArgs s__law_asked) (defBody s__law_asked) (defScope s__law_asked) .none kV9 dc9 pm9 an9 cd9 ct9, PySem.W.fnOf "_law_mixed" "_law_mixed" (defArgs s__law_mixed) (defBody s__law_mixed) (defScope s__law_mixed) .none kV10 dc10 pm10 an10 cd10 ct10, PySem.W.fnOf "_law_draw" "_law_draw" (defArgs s__law_draw) (defBody s__law_draw) (defScope s__law_draw) .none kV11 dc11 pm11 an11 cd11 ct11, PySem.W.fnOf "_law_int" "_law_int" (defArgs s__law_int) (defBody s__law_int) (defScope s__law_int) .none kV12 dc12 pm12 an12 cd12 ct12, PySem.W.fnOf "law" "law" (defArgs s_law) (defBody s_law) (defScope s_law) .none kV13 dc13 pm13 an13 cd13 ct13] : List FuncData).getD i (PySem.W.fnOf "_law_open" "_law_open" (defArgs s__law_open) (defBody s__law_open) (defScope s__law_open) .none kV0 dc0 pm0 an0 cd0 ct0)) :=
    { b_abs := PySem.W.mg_none_of X G z_abs,
      b_bool := PySem.W.mg_none_of X G z_bool,
      b_int := PySem.W.mg_none_of X G z_int,
      b_isinstance := PySem.W.mg_none_of X G z_isinstance,
      b_len := PySem.W.mg_none_of X G z_len,
      b_max := PySem.W.mg_none_of X G z_max,
      b_range := PySem.W.mg_none_of X G z_range,
      m_isqrt := PySem.W.mg_of X G y_isqrt,
      d__law_open := ⟨F0, b0, PySem.W.mg_of X G a0⟩,
      d_is_number := ⟨F1, b1, PySem.W.mg_of X G a1⟩,
      d_check := ⟨F2, b2, PySem.W.mg_of X G a2⟩,
      d_lines_sung := ⟨F3, b3, PySem.W.mg_of X G a3⟩,
      d_thing_at := ⟨F4, b4, PySem.W.mg_of X G a4⟩,
      d_sung_of := ⟨F5, b5, PySem.W.mg_of X G a5⟩,
      d_line_of := ⟨F6, b6, PySem.W.mg_of X G a6⟩,
      d_next_line_of := ⟨F7, b7, PySem.W.mg_of X G a7⟩,
      d__law_told := ⟨F8, b8, PySem.W.mg_of X G a8⟩,
      d__law_asked := ⟨F9, b9, PySem.W.mg_of X G a9⟩,
      d__law_mixed := ⟨F10, b10, PySem.W.mg_of X G a10⟩,
      d__law_draw := ⟨F11, b11, PySem.W.mg_of X G a11⟩,
      d__law_int := ⟨F12, b12, PySem.W.mg_of X G a12⟩,
      d_law := ⟨F13, b13, PySem.W.mg_of X G a13⟩,
      e0 := ⟨PySem.W.mg_of X G g0, q0, kC0, r0, t0⟩,
      e1 := ⟨PySem.W.mg_of X G g1, q1, kC1, r1, t1⟩,
      e2 := ⟨PySem.W.mg_of X G g2, q2, kC2, r2, t2⟩,
      e3 := ⟨PySem.W.mg_of X G g3, q3, kC3, r3, t3⟩,
      e4 := ⟨PySem.W.mg_of X G g4, q4, kC4, r4, t4⟩,
      e5 := ⟨PySem.W.mg_of X G g5, q5, kC5, r5, t5⟩,
      exm0 := all6 (R := fun a b => PySem.W.exmOne K (.ref a) (.ref C0) = some b) 0 (exm_of r0 ic0 t0 s0_0) (exm_of r0 ic0 t0 s1_0) (exm_of r0 ic0 t0 s2_0) (exm_of r0 ic0 t0 s3_0) (exm_of r0 ic0 t0 s4_0) (exm_of r0 ic0 t0 s5_0),
      kit0 := all6 (R := fun a b => PySem.W.kitOne K (.ref a) (.ref C0) = some b) 0 (kit_of ic0 t0 s0_0 s0_0) (kit_of ic0 t0 s1_0 s0_0) (kit_of ic0 t0 s2_0 s0_0) (kit_of ic0 t0 s3_0 s0_0) (kit_of ic0 t0 s4_0 s0_0) (kit_of ic0 t0 s5_0 s0_0),
      kit1 := all6 (R := fun a b => PySem.W.kitOne K (.ref a) (.ref C1) = some b) 1 (kit_of ic1 t1 s0_1 s1_1) (kit_of ic1 t1 s1_1 s1_1) (kit_of ic1 t1 s2_1 s1_1) (kit_of ic1 t1 s3_1 s1_1) (kit_of ic1 t1 s4_1 s1_1) (kit_of ic1 t1 s5_1 s1_1),
      kit2 := all6 (R := fun a b => PySem.W.kitOne K (.ref a) (.ref C2) = some b) 2 (kit_of ic2 t2 s0_2 s2_2) (kit_of ic2 t2 s1_2 s2_2) (kit_of ic2 t2 s2_2 s2_2) (kit_of ic2 t2 s3_2 s2_2) (kit_of ic2 t2 s4_2 s2_2) (kit_of ic2 t2 s5_2 s2_2),
      kit3 := all6 (R := fun a b => PySem.W.kitOne K (.ref a) (.ref C3) = some b) 3 (kit_of ic3 t3 s0_3 s3_3) (kit_of ic3 t3 s1_3 s3_3) (kit_of ic3 t3 s2_3 s3_3) (kit_of ic3 t3 s3_3 s3_3) (kit_of ic3 t3 s4_3 s3_3) (kit_of ic3 t3 s5_3 s3_3),
      kit4 := all6 (R := fun a b => PySem.W.kitOne K (.ref a) (.ref C4) = some b) 4 (kit_of ic4 t4 s0_4 s4_4) (kit_of ic4 t4 s1_4 s4_4) (kit_of ic4 t4 s2_4 s4_4) (kit_of ic4 t4 s3_4 s4_4) (kit_of ic4 t4 s4_4 s4_4) (kit_of ic4 t4 s5_4 s4_4),
      kit5 := all6 (R := fun a b => PySem.W.kitOne K (.ref a) (.ref C5) = some b) 5 (kit_of ic5 t5 s0_5 s5_5) (kit_of ic5 t5 s1_5 s5_5) (kit_of ic5 t5 s2_5 s5_5) (kit_of ic5 t5 s3_5 s5_5) (kit_of ic5 t5 s4_5 s5_5) (kit_of ic5 t5 s5_5 s5_5),
      exc := exc6 (R := fun a => ExcC K a) ⟨hg0, hk0, hs0, hd0, ha0, hn, ht, hm0⟩ ⟨hg1, hk1, hs1, hd1, ha1, hn, ht, hm1⟩ ⟨hg2, hk2, hs2, hd2, ha2, hn, ht, hm2⟩ ⟨hg3, hk3, hs3, hd3, ha3, hn, ht, hm3⟩ ⟨hg4, hk4, hs4, hd4, ha4, hn, ht, hm4⟩ ⟨hg5, hk5, hs5, hd5, ha5, hn, ht, hm5⟩ }
  exact ⟨_, fun s v => .of_eq rfl, fun base _ _ => (ok_law T).imp (law_sp hlaw)⟩
end K56

set_option Elab.async false
set_option linter.all false
set_option maxRecDepth 100000
set_option maxHeartbeats 2000000
namespace K56
open PySem PySem.Spec PyProof.Rows L2 Sm
theorem f_is_number (v l m : Int) : mkF 3 3 d_is_number [vl (.int v), vl (.int l), vl (.int m)] = .ok (vl (.bl (decide (l ≤ v) && decide (v ≤ m)))) [.emp, .emp, .emp] := by
  rw [p_mkF]
  by_cases h : l ≤ v <;> simp only [d_is_number, h, p_sSeq, p_sIf, p_sExpr, p_sRet, p_sRetV, p_sRetN, p_sNil, p_sPass, p_sBrk, p_sCnt, p_sAsg, p_sRaise, p_sFor, p_sTry, p_sSetIx, p_sUnp, p_sParN, p_sPar2, p_evD, p_eOp, p_eC, p_eVar, p_eSeq, p_eAnd, p_eOr, p_eNot, p_eIf, p_eChain, p_eCall, p_eLc, p_dYes, p_iAny, p_iLst, p_iRange1, p_iRange2, p_eMut, evO, lookO, allD, takeA, giveB, startC, endC, un_c, un_e, setAll, asgV, setCs, mkTup, mkLst, t_lt, t_fd, t_md, t_tb, t_ti, t_l1, t_l2, t_l3, t_mx, t_mn, t_ab, t_in, t_ng, t_add, t_sub, t_mul, t_pw, t_it1, t_it2, t_it3, mAppend, lLe, lLt, List.getElem?_cons_zero, List.getElem?_cons_succ, List.set_cons_zero, List.set_cons_succ, List.length_cons, List.length_nil, List.map_cons, List.map_nil, List.cons_append, List.nil_append, List.append_nil, List.replicate_zero, List.replicate_succ, Nat.reduceAdd, Nat.reduceSub, Nat.sub_self, Nat.add_one_sub_one, if_true, if_false, if_pos, Bool.not_true, Bool.not_false, Bool.true_and, Bool.and_true, Bool.false_and, Bool.and_false, Nat.reduceEqDiff, Bool.false_eq_true, reduceCtorEq, fi_ii, fi_ib, Nat.zero_add, decide_true, decide_false, eq_self]
theorem f_check_ok (n l : Int) (h : l ≤ n) : mkF 2 2 d_check [vl (.int n), vl (.int l)] = .ok (vl .non) [.emp, .emp] := by
  rw [p_mkF]
  have h2 : ¬ (l > n) := by omega
  simp only [d_check, f_is_number, p_sSeq, p_sIf, p_sExpr, p_sRet, p_sRetV, p_sRetN, p_sNil, p_sPass, p_sBrk, p_sCnt, p_sAsg, p_sRaise, p_sFor, p_sTry, p_sSetIx, p_sUnp, p_sParN, p_sPar2, p_evD, p_eOp, p_eC, p_eVar, p_eSeq, p_eAnd, p_eOr, p_eNot, p_eIf, p_eChain, p_eCall, p_eLc, p_dYes, p_iAny, p_iLst, p_iRange1, p_iRange2, p_eMut, evO, lookO, allD, takeA, giveB, startC, endC, un_c, un_e, setAll, asgV, setCs, mkTup, mkLst, t_lt, t_fd, t_md, t_tb, t_ti, t_l1, t_l2, t_l3, t_mx, t_mn, t_ab, t_in, t_ng, t_add, t_sub, t_mul, t_pw, t_it1, t_it2, t_it3, mAppend, lLe, lLt, List.getElem?_cons_zero, List.getElem?_cons_succ, List.set_cons_zero, List.set_cons_succ, List.length_cons, List.length_nil, List.map_cons, List.map_nil, List.cons_append, List.nil_append, List.append_nil, List.replicate_zero, List.replicate_succ, Nat.reduceAdd, Nat.reduceSub, Nat.sub_self, Nat.add_one_sub_one, if_true, if_false, if_pos, Bool.not_true, Bool.not_false, Bool.true_and, Bool.and_true, Bool.false_and, Bool.and_false, Nat.reduceEqDiff, Bool.false_eq_true, reduceCtorEq, fi_ii, fi_ib, Nat.zero_add, decide_true, decide_false, eq_self, h, h2, Int.le_refl]
theorem f_check_no (n l : Int) (h : n < l) : mkF 2 2 d_check [vl (.int n), vl (.int l)] = .exc 1 [.emp, .emp] := by
  rw [p_mkF]
  have h2 : ¬ (l ≤ n) := by omega
  have h3 : l > n := h
  simp only [d_check, f_is_number, p_sSeq, p_sIf, p_sExpr, p_sRet, p_sRetV, p_sRetN, p_sNil, p_sPass, p_sBrk, p_sCnt, p_sAsg, p_sRaise, p_sFor, p_sTry, p_sSetIx, p_sUnp, p_sParN, p_sPar2, p_evD, p_eOp, p_eC, p_eVar, p_eSeq, p_eAnd, p_eOr, p_eNot, p_eIf, p_eChain, p_eCall, p_eLc, p_dYes, p_iAny, p_iLst, p_iRange1, p_iRange2, p_eMut, evO, lookO, allD, takeA, giveB, startC, endC, un_c, un_e, setAll, asgV, setCs, mkTup, mkLst, t_lt, t_fd, t_md, t_tb, t_ti, t_l1, t_l2, t_l3, t_mx, t_mn, t_ab, t_in, t_ng, t_add, t_sub, t_mul, t_pw, t_it1, t_it2, t_it3, mAppend, lLe, lLt, List.getElem?_cons_zero, List.getElem?_cons_succ, List.set_cons_zero, List.set_cons_succ, List.length_cons, List.length_nil, List.map_cons, List.map_nil, List.cons_append, List.nil_append, List.append_nil, List.replicate_zero, List.replicate_succ, Nat.reduceAdd, Nat.reduceSub, Nat.sub_self, Nat.add_one_sub_one, if_true, if_false, if_pos, Bool.not_true, Bool.not_false, Bool.true_and, Bool.and_true, Bool.false_and, Bool.and_false, Nat.reduceEqDiff, Bool.false_eq_true, reduceCtorEq, fi_ii, fi_ib, Nat.zero_add, decide_true, decide_false, eq_self, h2, h3, Int.le_refl]
theorem f_lines_ok (v : Int) (h : 0 ≤ v) (hb : v < 2 ^ 100) : mkF 1 1 d_lines_sung [vl (.int v)] = .ok (vl (.int (v * (v + 1) / 2))) [.emp] := by
  rw [p_mkF]
  have hm : mulOk v (v + 1) = true := mulOk_of (n := 100) (m := 101) (by omega) (by omega) (by decide)
  have hd : divOk 2 = true := by decide
  simp only [d_lines_sung, f_check_ok v 0 h, p_sSeq, p_sIf, p_sExpr, p_sRet, p_sRetV, p_sRetN, p_sNil, p_sPass, p_sBrk, p_sCnt, p_sAsg, p_sRaise, p_sFor, p_sTry, p_sSetIx, p_sUnp, p_sParN, p_sPar2, p_evD, p_eOp, p_eC, p_eVar, p_eSeq, p_eAnd, p_eOr, p_eNot, p_eIf, p_eChain, p_eCall, p_eLc, p_dYes, p_iAny, p_iLst, p_iRange1, p_iRange2, p_eMut, evO, lookO, allD, takeA, giveB, startC, endC, un_c, un_e, setAll, asgV, setCs, mkTup, mkLst, t_lt, t_fd, t_md, t_tb, t_ti, t_l1, t_l2, t_l3, t_mx, t_mn, t_ab, t_in, t_ng, t_add, t_sub, t_mul, t_pw, t_it1, t_it2, t_it3, mAppend, lLe, lLt, List.getElem?_cons_zero, List.getElem?_cons_succ, List.set_cons_zero, List.set_cons_succ, List.length_cons, List.length_nil, List.map_cons, List.map_nil, List.cons_append, List.nil_append, List.append_nil, List.replicate_zero, List.replicate_succ, Nat.reduceAdd, Nat.reduceSub, Nat.sub_self, Nat.add_one_sub_one, if_true, if_false, if_pos, Bool.not_true, Bool.not_false, Bool.true_and, Bool.and_true, Bool.false_and, Bool.and_false, Nat.reduceEqDiff, Bool.false_eq_true, reduceCtorEq, fi_ii, fi_ib, Nat.zero_add, decide_true, decide_false, eq_self, hm, hd]
theorem f_lines_no (v : Int) (h : v < 0) : mkF 1 1 d_lines_sung [vl (.int v)] = .exc 1 [.emp] := by
  rw [p_mkF]
  simp only [d_lines_sung, f_check_no v 0 h, p_sSeq, p_sIf, p_sExpr, p_sRet, p_sRetV, p_sRetN, p_sNil, p_sPass, p_sBrk, p_sCnt, p_sAsg, p_sRaise, p_sFor, p_sTry, p_sSetIx, p_sUnp, p_sParN, p_sPar2, p_evD, p_eOp, p_eC, p_eVar, p_eSeq, p_eAnd, p_eOr, p_eNot, p_eIf, p_eChain, p_eCall, p_eLc, p_dYes, p_iAny, p_iLst, p_iRange1, p_iRange2, p_eMut, evO, lookO, allD, takeA, giveB, startC, endC, un_c, un_e, setAll, asgV, setCs, mkTup, mkLst, t_lt, t_fd, t_md, t_tb, t_ti, t_l1, t_l2, t_l3, t_mx, t_mn, t_ab, t_in, t_ng, t_add, t_sub, t_mul, t_pw, t_it1, t_it2, t_it3, mAppend, lLe, lLt, List.getElem?_cons_zero, List.getElem?_cons_succ, List.set_cons_zero, List.set_cons_succ, List.length_cons, List.length_nil, List.map_cons, List.map_nil, List.cons_append, List.nil_append, List.append_nil, List.replicate_zero, List.replicate_succ, Nat.reduceAdd, Nat.reduceSub, Nat.sub_self, Nat.add_one_sub_one, if_true, if_false, if_pos, Bool.not_true, Bool.not_false, Bool.true_and, Bool.and_true, Bool.false_and, Bool.and_false, Nat.reduceEqDiff, Bool.false_eq_true, reduceCtorEq, fi_ii, fi_ib, Nat.zero_add, decide_true, decide_false, eq_self]
end K56

set_option Elab.async false
set_option linter.all false
set_option maxRecDepth 100000
set_option maxHeartbeats 2000000
namespace K56
open PySem PySem.Spec PyProof.Rows L2 Sm
/-- lines ahead of verse v -/
def LL (v : Int) : Int := v * (v + 1) / 2
theorem LL_two (v : Int) : 2 * LL v = v * (v + 1) := by
  unfold LL
  have : v * (v + 1) % 2 = 0 := by
    have h := Int.emod_two_eq v
    rcases h with h | h
    · rw [Int.mul_emod, h]; simp
    · rw [Int.mul_emod, Int.add_emod, h]; simp
  omega
theorem LL_step (v : Int) : LL v = LL (v - 1) + v := by
  have h1 := LL_two v
  have h2 := LL_two (v - 1)
  have e : (v - 1) * (v - 1 + 1) = v * (v + 1) - 2 * v := by
    rw [Int.sub_add_cancel, Int.sub_mul, Int.mul_add]; omega
  omega
theorem LL_mono {v w : Int} (h0 : 0 ≤ v) (h : v ≤ w) : LL v ≤ LL w := by
  have h1 := LL_two v
  have h2 := LL_two w
  have : v * (v + 1) ≤ w * (w + 1) := Int.mul_le_mul h (by omega) (by omega) (by omega)
  omega
theorem root_of (v r n x : Int) (hr : 0 ≤ r) (h1 : r * r ≤ n) (h2 : n < (r + 1) * (r + 1)) (e : n = 4 * (v * v) - 4 * v + 1 + 8 * x) (h3 : 0 ≤ x) (h4 : x < v) : (r + 1) / 2 = v := by
  have k1 : r < 2 * v + 1 := by
    by_cases q : r < 2 * v + 1
    · exact q
    · have := Int.mul_le_mul (show 2 * v + 1 ≤ r by omega) (show 2 * v + 1 ≤ r by omega) (by omega) hr
      have e1 : (2 * v + 1) * (2 * v + 1) = 4 * (v * v) + 4 * v + 1 := by grind
      omega
  have k2 : 2 * v - 1 < r + 1 := by
    by_cases q : 2 * v - 1 < r + 1
    · exact q
    · have := Int.mul_le_mul (show r + 1 ≤ 2 * v - 1 by omega) (show r + 1 ≤ 2 * v - 1 by omega) (by omega) (by omega)
      have e1 : (2 * v - 1) * (2 * v - 1) = 4 * (v * v) - 4 * v + 1 := by grind
      omega
  omega
theorem f_isqrt {n : Int} (h0 : 0 ≤ n) (hb : n < 2 ^ 200) : ∃ r : Nat, fIsqrt [.int n] = some (vl (.int r)) ∧ (r : Int) * r ≤ n ∧ n < ((r : Int) + 1) * (r + 1) := by
  obtain ⟨k, rfl⟩ := Int.eq_ofNat_of_zero_le h0
  have hk : k < 2 ^ 200 := by omega
  have hl : k.log2 ≤ 13000 := by
    by_cases z : k = 0
    · subst z; decide
    · have := (Nat.log2_lt z).mpr hk
      omega
  have sp := Float64.isqrt_spec k
  refine ⟨Float64.isqrt k, ?_, ?_, ?_⟩
  · unfold fIsqrt
    simp only [Int.toNat_natCast]
    rw [if_pos ⟨h0, hl⟩]
  · exact_mod_cast sp.1
  · exact_mod_cast sp.2
/-- where a place stands: verse v, thing t -/
theorem f_thing {v t line : Int} (hv : 1 ≤ t) (ht : t ≤ v) (hb : v < 2 ^ 90) (e : line = LL (v - 1) + (v - t)) : mkF 1 2 d_thing_at [vl (.int line)] = .ok (vl (.tup [.int v, .int t])) [.emp] := by
  have h2 := LL_two (v - 1)
  have h3 : (v - 1) * (v - 1 + 1) = v * v - v := by grind
  have hL0 : 0 ≤ LL (v - 1) := by
    have : 0 ≤ (v - 1) * (v - 1 + 1) := Int.mul_nonneg (by omega) (by omega)
    omega
  have h0 : 0 ≤ line := by omega
  have hvv : v * v < 2 ^ 90 * 2 ^ 90 := by
    have := Int.mul_lt_mul hb (Int.le_of_lt hb) (by omega) (by decide)
    exact this
  have hbn : line < 2 ^ 190 := by omega
  rw [p_mkF]
  have hm : mulOk 8 line = true := mulOk_of (n := 4) (m := 190) (by decide) (by omega) (by decide)
  obtain ⟨r, e1, r1, r2⟩ := f_isqrt (n := 8 * line + 1) (by omega) (by omega)
  have er : ((r : Int) + 1) / 2 = v := root_of v r (8 * line + 1) (v - t) (by omega) r1 r2 (by omega) (by omega) (by omega)
  have hd : divOk 2 = true := by decide
  have hl := f_lines_ok (v - 1) (by omega) (by omega)
  have hsz : (2 : Nat) ≤ SZ := by decide
  have e9 : v - (line - (v - 1) * (v - 1 + 1) / 2) = t := by
    have : LL (v - 1) = (v - 1) * (v - 1 + 1) / 2 := rfl
    omega
  simp only [d_thing_at, f_check_ok line 0 h0, p_sSeq, p_sIf, p_sExpr, p_sRet, p_sRetV, p_sRetN, p_sNil, p_sPass, p_sBrk, p_sCnt, p_sAsg, p_sRaise, p_sFor, p_sTry, p_sSetIx, p_sUnp, p_sParN, p_sPar2, p_evD, p_eOp, p_eC, p_eVar, p_eSeq, p_eAnd, p_eOr, p_eNot, p_eIf, p_eChain, p_eCall, p_eLc, p_dYes, p_iAny, p_iLst, p_iRange1, p_iRange2, p_eMut, evO, lookO, allD, takeA, giveB, startC, endC, un_c, un_e, setAll, asgV, setCs, mkTup, mkLst, t_lt, t_fd, t_md, t_tb, t_ti, t_l1, t_l2, t_l3, t_mx, t_mn, t_ab, t_in, t_ng, t_add, t_sub, t_mul, t_pw, t_it1, t_it2, t_it3, mAppend, lLe, lLt, List.getElem?_cons_zero, List.getElem?_cons_succ, List.set_cons_zero, List.set_cons_succ, List.length_cons, List.length_nil, List.map_cons, List.map_nil, List.cons_append, List.nil_append, List.append_nil, List.replicate_zero, List.replicate_succ, Nat.reduceAdd, Nat.reduceSub, Nat.sub_self, Nat.add_one_sub_one, if_true, if_false, if_pos, Bool.not_true, Bool.not_false, Bool.true_and, Bool.and_true, Bool.false_and, Bool.and_false, Nat.reduceEqDiff, Bool.false_eq_true, reduceCtorEq, fi_ii, fi_ib, Nat.zero_add, decide_true, decide_false, eq_self, hm, hd, e1, er, hl, hsz, e9]
theorem f_thing_no (n : Int) (h : n < 0) : mkF 1 2 d_thing_at [vl (.int n)] = .exc 1 [.emp] := by
  rw [p_mkF]
  simp only [d_thing_at, f_check_no n 0 h, p_sSeq, p_sIf, p_sExpr, p_sRet, p_sRetV, p_sRetN, p_sNil, p_sPass, p_sBrk, p_sCnt, p_sAsg, p_sRaise, p_sFor, p_sTry, p_sSetIx, p_sUnp, p_sParN, p_sPar2, p_evD, p_eOp, p_eC, p_eVar, p_eSeq, p_eAnd, p_eOr, p_eNot, p_eIf, p_eChain, p_eCall, p_eLc, p_dYes, p_iAny, p_iLst, p_iRange1, p_iRange2, p_eMut, evO, lookO, allD, takeA, giveB, startC, endC, un_c, un_e, setAll, asgV, setCs, mkTup, mkLst, t_lt, t_fd, t_md, t_tb, t_ti, t_l1, t_l2, t_l3, t_mx, t_mn, t_ab, t_in, t_ng, t_add, t_sub, t_mul, t_pw, t_it1, t_it2, t_it3, mAppend, lLe, lLt, List.getElem?_cons_zero, List.getElem?_cons_succ, List.set_cons_zero, List.set_cons_succ, List.length_cons, List.length_nil, List.map_cons, List.map_nil, List.cons_append, List.nil_append, List.append_nil, List.replicate_zero, List.replicate_succ, Nat.reduceAdd, Nat.reduceSub, Nat.sub_self, Nat.add_one_sub_one, if_true, if_false, if_pos, Bool.not_true, Bool.not_false, Bool.true_and, Bool.and_true, Bool.false_and, Bool.and_false, Nat.reduceEqDiff, Bool.false_eq_true, reduceCtorEq, fi_ii, fi_ib, Nat.zero_add, decide_true, decide_false, eq_self]
theorem f_sung (v t : Int) (h : 0 ≤ v) (h1 : 1 ≤ t) : mkF 2 2 d_sung_of [vl (.int v), vl (.int t)] = .ok (vl (.int (if v - t + 1 > 0 then v - t + 1 else 0))) [.emp, .emp] := by
  rw [p_mkF]
  simp only [d_sung_of, f_check_ok v 0 h, f_check_ok t 1 h1, p_sSeq, p_sIf, p_sExpr, p_sRet, p_sRetV, p_sRetN, p_sNil, p_sPass, p_sBrk, p_sCnt, p_sAsg, p_sRaise, p_sFor, p_sTry, p_sSetIx, p_sUnp, p_sParN, p_sPar2, p_evD, p_eOp, p_eC, p_eVar, p_eSeq, p_eAnd, p_eOr, p_eNot, p_eIf, p_eChain, p_eCall, p_eLc, p_dYes, p_iAny, p_iLst, p_iRange1, p_iRange2, p_eMut, evO, lookO, allD, takeA, giveB, startC, endC, un_c, un_e, setAll, asgV, setCs, mkTup, mkLst, t_lt, t_fd, t_md, t_tb, t_ti, t_l1, t_l2, t_l3, t_mx, t_mn, t_ab, t_in, t_ng, t_add, t_sub, t_mul, t_pw, t_it1, t_it2, t_it3, mAppend, lLe, lLt, List.getElem?_cons_zero, List.getElem?_cons_succ, List.set_cons_zero, List.set_cons_succ, List.length_cons, List.length_nil, List.map_cons, List.map_nil, List.cons_append, List.nil_append, List.append_nil, List.replicate_zero, List.replicate_succ, Nat.reduceAdd, Nat.reduceSub, Nat.sub_self, Nat.add_one_sub_one, if_true, if_false, if_pos, Bool.not_true, Bool.not_false, Bool.true_and, Bool.and_true, Bool.false_and, Bool.and_false, Nat.reduceEqDiff, Bool.false_eq_true, reduceCtorEq, fi_ii, fi_ib, Nat.zero_add, decide_true, decide_false, eq_self]
theorem f_sung_no1 (v t : Int) (h : v < 0) : mkF 2 2 d_sung_of [vl (.int v), vl (.int t)] = .exc 1 [.emp, .emp] := by
  rw [p_mkF]
  simp only [d_sung_of, f_check_no v 0 h, p_sSeq, p_sIf, p_sExpr, p_sRet, p_sRetV, p_sRetN, p_sNil, p_sPass, p_sBrk, p_sCnt, p_sAsg, p_sRaise, p_sFor, p_sTry, p_sSetIx, p_sUnp, p_sParN, p_sPar2, p_evD, p_eOp, p_eC, p_eVar, p_eSeq, p_eAnd, p_eOr, p_eNot, p_eIf, p_eChain, p_eCall, p_eLc, p_dYes, p_iAny, p_iLst, p_iRange1, p_iRange2, p_eMut, evO, lookO, allD, takeA, giveB, startC, endC, un_c, un_e, setAll, asgV, setCs, mkTup, mkLst, t_lt, t_fd, t_md, t_tb, t_ti, t_l1, t_l2, t_l3, t_mx, t_mn, t_ab, t_in, t_ng, t_add, t_sub, t_mul, t_pw, t_it1, t_it2, t_it3, mAppend, lLe, lLt, List.getElem?_cons_zero, List.getElem?_cons_succ, List.set_cons_zero, List.set_cons_succ, List.length_cons, List.length_nil, List.map_cons, List.map_nil, List.cons_append, List.nil_append, List.append_nil, List.replicate_zero, List.replicate_succ, Nat.reduceAdd, Nat.reduceSub, Nat.sub_self, Nat.add_one_sub_one, if_true, if_false, if_pos, Bool.not_true, Bool.not_false, Bool.true_and, Bool.and_true, Bool.false_and, Bool.and_false, Nat.reduceEqDiff, Bool.false_eq_true, reduceCtorEq, fi_ii, fi_ib, Nat.zero_add, decide_true, decide_false, eq_self]
theorem f_sung_no2 (v t : Int) (h : 0 ≤ v) (h1 : t < 1) : mkF 2 2 d_sung_of [vl (.int v), vl (.int t)] = .exc 1 [.emp, .emp] := by
  rw [p_mkF]
  simp only [d_sung_of, f_check_ok v 0 h, f_check_no t 1 h1, p_sSeq, p_sIf, p_sExpr, p_sRet, p_sRetV, p_sRetN, p_sNil, p_sPass, p_sBrk, p_sCnt, p_sAsg, p_sRaise, p_sFor, p_sTry, p_sSetIx, p_sUnp, p_sParN, p_sPar2, p_evD, p_eOp, p_eC, p_eVar, p_eSeq, p_eAnd, p_eOr, p_eNot, p_eIf, p_eChain, p_eCall, p_eLc, p_dYes, p_iAny, p_iLst, p_iRange1, p_iRange2, p_eMut, evO, lookO, allD, takeA, giveB, startC, endC, un_c, un_e, setAll, asgV, setCs, mkTup, mkLst, t_lt, t_fd, t_md, t_tb, t_ti, t_l1, t_l2, t_l3, t_mx, t_mn, t_ab, t_in, t_ng, t_add, t_sub, t_mul, t_pw, t_it1, t_it2, t_it3, mAppend, lLe, lLt, List.getElem?_cons_zero, List.getElem?_cons_succ, List.set_cons_zero, List.set_cons_succ, List.length_cons, List.length_nil, List.map_cons, List.map_nil, List.cons_append, List.nil_append, List.append_nil, List.replicate_zero, List.replicate_succ, Nat.reduceAdd, Nat.reduceSub, Nat.sub_self, Nat.add_one_sub_one, if_true, if_false, if_pos, Bool.not_true, Bool.not_false, Bool.true_and, Bool.and_true, Bool.false_and, Bool.and_false, Nat.reduceEqDiff, Bool.false_eq_true, reduceCtorEq, fi_ii, fi_ib, Nat.zero_add, decide_true, decide_false, eq_self]
theorem f_lineof (v t : Int) (h : 1 ≤ v) (hb : v < 2 ^ 99) : mkF 2 2 d_line_of [vl (.int v), vl (.int t)] = .ok (vl (.int (LL (v - 1) + v - t))) [.emp, .emp] := by
  rw [p_mkF]
  have hl := f_lines_ok (v - 1) (by omega) (by omega)
  simp only [d_line_of, hl, p_sSeq, p_sIf, p_sExpr, p_sRet, p_sRetV, p_sRetN, p_sNil, p_sPass, p_sBrk, p_sCnt, p_sAsg, p_sRaise, p_sFor, p_sTry, p_sSetIx, p_sUnp, p_sParN, p_sPar2, p_evD, p_eOp, p_eC, p_eVar, p_eSeq, p_eAnd, p_eOr, p_eNot, p_eIf, p_eChain, p_eCall, p_eLc, p_dYes, p_iAny, p_iLst, p_iRange1, p_iRange2, p_eMut, evO, lookO, allD, takeA, giveB, startC, endC, un_c, un_e, setAll, asgV, setCs, mkTup, mkLst, t_lt, t_fd, t_md, t_tb, t_ti, t_l1, t_l2, t_l3, t_mx, t_mn, t_ab, t_in, t_ng, t_add, t_sub, t_mul, t_pw, t_it1, t_it2, t_it3, mAppend, lLe, lLt, List.getElem?_cons_zero, List.getElem?_cons_succ, List.set_cons_zero, List.set_cons_succ, List.length_cons, List.length_nil, List.map_cons, List.map_nil, List.cons_append, List.nil_append, List.append_nil, List.replicate_zero, List.replicate_succ, Nat.reduceAdd, Nat.reduceSub, Nat.sub_self, Nat.add_one_sub_one, if_true, if_false, if_pos, Bool.not_true, Bool.not_false, Bool.true_and, Bool.and_true, Bool.false_and, Bool.and_false, Nat.reduceEqDiff, Bool.false_eq_true, reduceCtorEq, fi_ii, fi_ib, Nat.zero_add, decide_true, decide_false, eq_self, LL]
/-- the next line of a thing: from line, that stands in verse v as thing s -/
theorem f_next {v s t line : Int} (hs : 1 ≤ s) (hsv : s ≤ v) (ht : 1 ≤ t) (hb : v < 2 ^ 80) (hb2 : t < 2 ^ 80) (e : line = LL (v - 1) + (v - s)) :
    mkF 2 4 d_next_line_of [vl (.int t), vl (.int line)] = .ok (vl (.int (let w := if v > t then v else t; if line ≤ LL (w - 1) + w - t then LL (w - 1) + w - t else LL w + (w + 1) - t))) [.emp, .emp] := by
  have h2 := LL_two (v - 1)
  have hL0 : 0 ≤ LL (v - 1) := by
    have : 0 ≤ (v - 1) * (v - 1 + 1) := Int.mul_nonneg (by omega) (by omega)
    omega
  have h0 : 0 ≤ line := by omega
  have ft := f_thing hs hsv (by omega) e
  rw [p_mkF]
  have ei : fIx [.tup [.int v, .int s], .int 0] = some (vl (.int v)) := rfl
  have hw : 1 ≤ (if v > t then v else t) ∧ (if v > t then v else t) < 2 ^ 80 := by split <;> omega
  generalize hW : (if v > t then v else t) = w at hw
  have f1 := f_lineof w t hw.1 (by omega)
  have f2 := f_lineof (w + 1) t (by omega) (by omega)
  rw [Int.add_sub_cancel] at f2
  by_cases q : line ≤ LL (w - 1) + w - t <;> simp only [d_next_line_of, f_check_ok t 1 ht, f_check_ok line 0 h0, ft, ei, hW, f1, f2, q, p_sSeq, p_sIf, p_sExpr, p_sRet, p_sRetV, p_sRetN, p_sNil, p_sPass, p_sBrk, p_sCnt, p_sAsg, p_sRaise, p_sFor, p_sTry, p_sSetIx, p_sUnp, p_sParN, p_sPar2, p_evD, p_eOp, p_eC, p_eVar, p_eSeq, p_eAnd, p_eOr, p_eNot, p_eIf, p_eChain, p_eCall, p_eLc, p_dYes, p_iAny, p_iLst, p_iRange1, p_iRange2, p_eMut, evO, lookO, allD, takeA, giveB, startC, endC, un_c, un_e, setAll, asgV, setCs, mkTup, mkLst, t_lt, t_fd, t_md, t_tb, t_ti, t_l1, t_l2, t_l3, t_mx, t_mn, t_ab, t_in, t_ng, t_add, t_sub, t_mul, t_pw, t_it1, t_it2, t_it3, mAppend, lLe, lLt, List.getElem?_cons_zero, List.getElem?_cons_succ, List.set_cons_zero, List.set_cons_succ, List.length_cons, List.length_nil, List.map_cons, List.map_nil, List.cons_append, List.nil_append, List.append_nil, List.replicate_zero, List.replicate_succ, Nat.reduceAdd, Nat.reduceSub, Nat.sub_self, Nat.add_one_sub_one, if_true, if_false, if_pos, Bool.not_true, Bool.not_false, Bool.true_and, Bool.and_true, Bool.false_and, Bool.and_false, Nat.reduceEqDiff, Bool.false_eq_true, reduceCtorEq, fi_ii, fi_ib, Nat.zero_add, decide_true, decide_false, eq_self]
theorem f_next_no1 (t line : Int) (h : t < 1) : mkF 2 4 d_next_line_of [vl (.int t), vl (.int line)] = .exc 1 [.emp, .emp] := by
  rw [p_mkF]
  simp only [d_next_line_of, f_check_no t 1 h, p_sSeq, p_sIf, p_sExpr, p_sRet, p_sRetV, p_sRetN, p_sNil, p_sPass, p_sBrk, p_sCnt, p_sAsg, p_sRaise, p_sFor, p_sTry, p_sSetIx, p_sUnp, p_sParN, p_sPar2, p_evD, p_eOp, p_eC, p_eVar, p_eSeq, p_eAnd, p_eOr, p_eNot, p_eIf, p_eChain, p_eCall, p_eLc, p_dYes, p_iAny, p_iLst, p_iRange1, p_iRange2, p_eMut, evO, lookO, allD, takeA, giveB, startC, endC, un_c, un_e, setAll, asgV, setCs, mkTup, mkLst, t_lt, t_fd, t_md, t_tb, t_ti, t_l1, t_l2, t_l3, t_mx, t_mn, t_ab, t_in, t_ng, t_add, t_sub, t_mul, t_pw, t_it1, t_it2, t_it3, mAppend, lLe, lLt, List.getElem?_cons_zero, List.getElem?_cons_succ, List.set_cons_zero, List.set_cons_succ, List.length_cons, List.length_nil, List.map_cons, List.map_nil, List.cons_append, List.nil_append, List.append_nil, List.replicate_zero, List.replicate_succ, Nat.reduceAdd, Nat.reduceSub, Nat.sub_self, Nat.add_one_sub_one, if_true, if_false, if_pos, Bool.not_true, Bool.not_false, Bool.true_and, Bool.and_true, Bool.false_and, Bool.and_false, Nat.reduceEqDiff, Bool.false_eq_true, reduceCtorEq, fi_ii, fi_ib, Nat.zero_add, decide_true, decide_false, eq_self]
theorem f_next_no2 (t line : Int) (h : 1 ≤ t) (h2 : line < 0) : mkF 2 4 d_next_line_of [vl (.int t), vl (.int line)] = .exc 1 [.emp, .emp] := by
  rw [p_mkF]
  simp only [d_next_line_of, f_check_ok t 1 h, f_check_no line 0 h2, p_sSeq, p_sIf, p_sExpr, p_sRet, p_sRetV, p_sRetN, p_sNil, p_sPass, p_sBrk, p_sCnt, p_sAsg, p_sRaise, p_sFor, p_sTry, p_sSetIx, p_sUnp, p_sParN, p_sPar2, p_evD, p_eOp, p_eC, p_eVar, p_eSeq, p_eAnd, p_eOr, p_eNot, p_eIf, p_eChain, p_eCall, p_eLc, p_dYes, p_iAny, p_iLst, p_iRange1, p_iRange2, p_eMut, evO, lookO, allD, takeA, giveB, startC, endC, un_c, un_e, setAll, asgV, setCs, mkTup, mkLst, t_lt, t_fd, t_md, t_tb, t_ti, t_l1, t_l2, t_l3, t_mx, t_mn, t_ab, t_in, t_ng, t_add, t_sub, t_mul, t_pw, t_it1, t_it2, t_it3, mAppend, lLe, lLt, List.getElem?_cons_zero, List.getElem?_cons_succ, List.set_cons_zero, List.set_cons_succ, List.length_cons, List.length_nil, List.map_cons, List.map_nil, List.cons_append, List.nil_append, List.append_nil, List.replicate_zero, List.replicate_succ, Nat.reduceAdd, Nat.reduceSub, Nat.sub_self, Nat.add_one_sub_one, if_true, if_false, if_pos, Bool.not_true, Bool.not_false, Bool.true_and, Bool.and_true, Bool.false_and, Bool.and_false, Nat.reduceEqDiff, Bool.false_eq_true, reduceCtorEq, fi_ii, fi_ib, Nat.zero_add, decide_true, decide_false, eq_self]
end K56

set_option Elab.async false
set_option linter.all false
set_option maxRecDepth 100000
set_option maxHeartbeats 2000000
namespace K56
open PySem PySem.Spec PyProof.Rows L2 Sm
theorem f_told : mkF 1 5 d__law_told [vl (.exc 1)] = .ok (vl (.str "OutOfRange")) [.emp] := by rfl
theorem f_int_i (v : Int) : mkF 1 1 d__law_int [vl (.int v)] = .ok (vl (.bl true)) [.emp] := by
  rw [p_mkF]
  simp only [d__law_int, p_sSeq, p_sIf, p_sExpr, p_sRet, p_sRetV, p_sRetN, p_sNil, p_sPass, p_sBrk, p_sCnt, p_sAsg, p_sRaise, p_sFor, p_sTry, p_sSetIx, p_sUnp, p_sParN, p_sPar2, p_evD, p_eOp, p_eC, p_eVar, p_eSeq, p_eAnd, p_eOr, p_eNot, p_eIf, p_eChain, p_eCall, p_eLc, p_dYes, p_iAny, p_iLst, p_iRange1, p_iRange2, p_eMut, evO, lookO, allD, takeA, giveB, startC, endC, un_c, un_e, setAll, asgV, setCs, mkTup, mkLst, t_lt, t_fd, t_md, t_tb, t_ti, t_l1, t_l2, t_l3, t_mx, t_mn, t_ab, t_in, t_ng, t_add, t_sub, t_mul, t_pw, t_it1, t_it2, t_it3, mAppend, lLe, lLt, List.getElem?_cons_zero, List.getElem?_cons_succ, List.set_cons_zero, List.set_cons_succ, List.length_cons, List.length_nil, List.map_cons, List.map_nil, List.cons_append, List.nil_append, List.append_nil, List.replicate_zero, List.replicate_succ, Nat.reduceAdd, Nat.reduceSub, Nat.sub_self, Nat.add_one_sub_one, if_true, if_false, if_pos, Bool.not_true, Bool.not_false, Bool.true_and, Bool.and_true, Bool.false_and, Bool.and_false, Nat.reduceEqDiff, Bool.false_eq_true, reduceCtorEq, fi_ii, fi_ib, Nat.zero_add, decide_true, decide_false, eq_self]
theorem f_mixed {c t : Int} (h0 : 0 ≤ c) (t0 : 0 ≤ t) (t1 : t < 2 ^ 64) : ∃ r : Int, 0 ≤ r ∧ mkF 2 3 d__law_mixed [vl (.int c), vl (.int t)] = .ok (vl (.int r)) [.emp, .emp] := by
  have hp61 : powOk 2 61 = true := by decide
  have e61 : (2 : Int) ^ (61 : Int).toNat = 2305843009213693952 := by decide
  have e29 : (2 : Int) ^ (29 : Int).toNat = 536870912 := by decide
  have e31 : (2 : Int) ^ (31 : Int).toNat = 2147483648 := by decide
  have m0 : (0 : Int) < 2305843009213693952 - 1 := by decide
  have m1 : (0 : Int) < 2305843009213693952 := by decide
  have z29 : (0 : Int) ≤ 29 := by decide
  have z31 : (0 : Int) ≤ 31 := by decide
  have k1 : mulOk (c % (2305843009213693952 - 1)) 6364136223846793005 = true := mulOk_of (n := 61) (m := 63) (by omega) (by decide) (by decide)
  have k2 : mulOk t 1442695040888963407 = true := mulOk_of (n := 64) (m := 61) (by omega) (by decide) (by decide)
  generalize hA : (c % (2305843009213693952 - 1) * 6364136223846793005 + t * 1442695040888963407 + 97) % 2305843009213693952 = A
  have A0 : 0 ≤ A := by omega
  have A1 : A < 2305843009213693952 := by omega
  have x1 := xor_bound (n := 61) A0 A1 (j := A / 536870912) (by omega) (by omega)
  generalize hB : Builtin.bitXor A (A / 536870912) = B at x1
  have k3 : mulOk B 3935559000370003845 = true := mulOk_of (n := 62) (m := 62) (by omega) (by decide) (by decide)
  generalize hC : (B * 3935559000370003845) % 2305843009213693952 = C
  have C0 : 0 ≤ C := by omega
  have C1 : C < 2305843009213693952 := by omega
  have x2 := xor_bound (n := 61) C0 C1 (j := C / 2147483648) (by omega) (by omega)
  generalize hE : Builtin.bitXor C (C / 2147483648) = E at x2
  have k4 : mulOk E 2862933555777941757 = true := mulOk_of (n := 62) (m := 62) (by omega) (by decide) (by decide)
  refine ⟨(E * 2862933555777941757) % 2305843009213693952, by omega, ?_⟩
  rw [p_mkF]
  simp only [d__law_mixed, p_sSeq, p_sIf, p_sExpr, p_sRet, p_sRetV, p_sRetN, p_sNil, p_sPass, p_sBrk, p_sCnt, p_sAsg, p_sRaise, p_sFor, p_sTry, p_sSetIx, p_sUnp, p_sParN, p_sPar2, p_evD, p_eOp, p_eC, p_eVar, p_eSeq, p_eAnd, p_eOr, p_eNot, p_eIf, p_eChain, p_eCall, p_eLc, p_dYes, p_iAny, p_iLst, p_iRange1, p_iRange2, p_eMut, evO, lookO, allD, takeA, giveB, startC, endC, un_c, un_e, setAll, asgV, setCs, mkTup, mkLst, t_lt, t_fd, t_md, t_tb, t_ti, t_l1, t_l2, t_l3, t_mx, t_mn, t_ab, t_in, t_ng, t_add, t_sub, t_mul, t_pw, t_it1, t_it2, t_it3, mAppend, lLe, lLt, List.getElem?_cons_zero, List.getElem?_cons_succ, List.set_cons_zero, List.set_cons_succ, List.length_cons, List.length_nil, List.map_cons, List.map_nil, List.cons_append, List.nil_append, List.append_nil, List.replicate_zero, List.replicate_succ, Nat.reduceAdd, Nat.reduceSub, Nat.sub_self, Nat.add_one_sub_one, if_true, if_false, if_pos, Bool.not_true, Bool.not_false, Bool.true_and, Bool.and_true, Bool.false_and, Bool.and_false, Nat.reduceEqDiff, Bool.false_eq_true, reduceCtorEq, fi_ii, fi_ib, Nat.zero_add, decide_true, decide_false, eq_self, hp61, e61, m0, m1, k1, k2, hA, t_xor, t_shr, z29, z31, e29, e31, hB, k3, hC, hE, k4]
/-- the draws: turn at most k -/
def Dr (k : Int) (d : D) : Prop := ∃ (t l : Int) (cs : List Int), d = .lst [.int t, .int l, .lst (cs.map .int)] ∧ 0 ≤ t ∧ t ≤ k ∧ 0 ≤ l ∧ cs ≠ [] ∧ (∀ c ∈ cs, 0 ≤ c) ∧ cs.length ≤ 64
theorem Dr.le {k m : Int} {d : D} (h : Dr k d) (q : k ≤ m) : Dr m d := by
  obtain ⟨t, l, cs, e, h1, h2, h3⟩ := h
  exact ⟨t, l, cs, e, h1, by omega, h3⟩
theorem f_draw {k n : Int} {d : D} (h : Dr k d) (hk : k < 2 ^ 60) (hn : 0 < n) (hn2 : n < 2 ^ 200) : ∃ (r : Int) (d' : D), 0 ≤ r ∧ r < n ∧ Dr (k + 1) d' ∧ mkF 2 6 d__law_draw [ow d, vl (.int n)] = .ok (vl (.int r)) [ow d', .emp] := by
  obtain ⟨t, l, cs, rfl, t0, t1, l0, hne, hc, hlen⟩ := h
  have hd : divOk n = true := by
    unfold divOk
    have : n.natAbs.log2 < 9000 := by
      have := (Nat.log2_lt (n := n.natAbs) (k := 200) (by omega)).mpr (by omega)
      omega
    rw [decide_eq_true hn, decide_eq_true this]
    rfl
  rw [p_mkF]
  by_cases q : l < n
  · have hpos : 0 < cs.length := List.length_pos_iff.mpr hne
    have hm : (0 : Int) < ((cs.map D.int).length : Int) := by rw [List.length_map]; omega
    generalize hi : t % ((cs.map D.int).length : Int) = ix at *
    have i0 : 0 ≤ ix := by rw [← hi]; exact Int.emod_nonneg _ (by omega)
    have i1 : ix < cs.length := by rw [← hi, List.length_map]; exact Int.emod_lt_of_pos _ (by omega)
    obtain ⟨j, rfl⟩ := Int.eq_ofNat_of_zero_le i0
    have hj : j < cs.length := by omega
    have hat : fIx [.lst (cs.map D.int), .int (j : Int)] = some (vl (.int cs[j])) := t_ixln (by rw [List.getElem?_map, List.getElem?_eq_getElem hj]; rfl)
    have c0 : 0 ≤ cs[j] := hc _ (List.getElem_mem hj)
    obtain ⟨r, r0, er⟩ := f_mixed (t := t) c0 t0 (by omega)
    have hp : powOk 10 18 = true := by decide
    by_cases w : t < ((cs.map D.int).length : Int)
    · by_cases w2 : (10 : Int) ^ (18 : Int).toNat ≤ cs[j]
      · refine ⟨cs[j] % n, .lst [.int (t + 1), .int (cs[j] / n), .lst (cs.map .int)], Int.emod_nonneg _ (by omega), Int.emod_lt_of_pos _ hn, ⟨t + 1, cs[j] / n, cs, rfl, by omega, by omega, Int.ediv_nonneg c0 (by omega), hne, hc, hlen⟩, ?_⟩
        simp only [d__law_draw, q, hm, hi, hat, w, w2, hp, hd, hn, ix30, ix31, t_pw, p_sSeq, p_sIf, p_sExpr, p_sRet, p_sRetV, p_sRetN, p_sNil, p_sPass, p_sBrk, p_sCnt, p_sAsg, p_sRaise, p_sFor, p_sTry, p_sSetIx, p_sUnp, p_sParN, p_sPar2, p_evD, p_eOp, p_eC, p_eVar, p_eSeq, p_eAnd, p_eOr, p_eNot, p_eIf, p_eChain, p_eCall, p_eLc, p_dYes, p_iAny, p_iLst, p_iRange1, p_iRange2, p_eMut, evO, lookO, allD, takeA, giveB, startC, endC, un_c, un_e, setAll, asgV, setCs, mkTup, mkLst, t_lt, t_fd, t_md, t_tb, t_ti, t_l1, t_l2, t_l3, t_mx, t_mn, t_ab, t_in, t_ng, t_add, t_sub, t_mul, t_pw, t_it1, t_it2, t_it3, mAppend, lLe, lLt, List.getElem?_cons_zero, List.getElem?_cons_succ, List.set_cons_zero, List.set_cons_succ, List.length_cons, List.length_nil, List.map_cons, List.map_nil, List.cons_append, List.nil_append, List.append_nil, List.replicate_zero, List.replicate_succ, Nat.reduceAdd, Nat.reduceSub, Nat.sub_self, Nat.add_one_sub_one, if_true, if_false, if_pos, Bool.not_true, Bool.not_false, Bool.true_and, Bool.and_true, Bool.false_and, Bool.and_false, Nat.reduceEqDiff, Bool.false_eq_true, reduceCtorEq, fi_ii, fi_ib, Nat.zero_add, decide_true, decide_false, eq_self]
      · refine ⟨r % n, .lst [.int (t + 1), .int (r / n), .lst (cs.map .int)], Int.emod_nonneg _ (by omega), Int.emod_lt_of_pos _ hn, ⟨t + 1, r / n, cs, rfl, by omega, by omega, Int.ediv_nonneg r0 (by omega), hne, hc, hlen⟩, ?_⟩
        simp only [d__law_draw, q, hm, hi, hat, w, w2, hp, hd, hn, ix30, ix31, t_pw, er, p_sSeq, p_sIf, p_sExpr, p_sRet, p_sRetV, p_sRetN, p_sNil, p_sPass, p_sBrk, p_sCnt, p_sAsg, p_sRaise, p_sFor, p_sTry, p_sSetIx, p_sUnp, p_sParN, p_sPar2, p_evD, p_eOp, p_eC, p_eVar, p_eSeq, p_eAnd, p_eOr, p_eNot, p_eIf, p_eChain, p_eCall, p_eLc, p_dYes, p_iAny, p_iLst, p_iRange1, p_iRange2, p_eMut, evO, lookO, allD, takeA, giveB, startC, endC, un_c, un_e, setAll, asgV, setCs, mkTup, mkLst, t_lt, t_fd, t_md, t_tb, t_ti, t_l1, t_l2, t_l3, t_mx, t_mn, t_ab, t_in, t_ng, t_add, t_sub, t_mul, t_pw, t_it1, t_it2, t_it3, mAppend, lLe, lLt, List.getElem?_cons_zero, List.getElem?_cons_succ, List.set_cons_zero, List.set_cons_succ, List.length_cons, List.length_nil, List.map_cons, List.map_nil, List.cons_append, List.nil_append, List.append_nil, List.replicate_zero, List.replicate_succ, Nat.reduceAdd, Nat.reduceSub, Nat.sub_self, Nat.add_one_sub_one, if_true, if_false, if_pos, Bool.not_true, Bool.not_false, Bool.true_and, Bool.and_true, Bool.false_and, Bool.and_false, Nat.reduceEqDiff, Bool.false_eq_true, reduceCtorEq, fi_ii, fi_ib, Nat.zero_add, decide_true, decide_false, eq_self]
    · refine ⟨r % n, .lst [.int (t + 1), .int (r / n), .lst (cs.map .int)], Int.emod_nonneg _ (by omega), Int.emod_lt_of_pos _ hn, ⟨t + 1, r / n, cs, rfl, by omega, by omega, Int.ediv_nonneg r0 (by omega), hne, hc, hlen⟩, ?_⟩
      simp only [d__law_draw, q, hm, hi, hat, w, hp, hd, hn, ix30, ix31, t_pw, er, p_sSeq, p_sIf, p_sExpr, p_sRet, p_sRetV, p_sRetN, p_sNil, p_sPass, p_sBrk, p_sCnt, p_sAsg, p_sRaise, p_sFor, p_sTry, p_sSetIx, p_sUnp, p_sParN, p_sPar2, p_evD, p_eOp, p_eC, p_eVar, p_eSeq, p_eAnd, p_eOr, p_eNot, p_eIf, p_eChain, p_eCall, p_eLc, p_dYes, p_iAny, p_iLst, p_iRange1, p_iRange2, p_eMut, evO, lookO, allD, takeA, giveB, startC, endC, un_c, un_e, setAll, asgV, setCs, mkTup, mkLst, t_lt, t_fd, t_md, t_tb, t_ti, t_l1, t_l2, t_l3, t_mx, t_mn, t_ab, t_in, t_ng, t_add, t_sub, t_mul, t_pw, t_it1, t_it2, t_it3, mAppend, lLe, lLt, List.getElem?_cons_zero, List.getElem?_cons_succ, List.set_cons_zero, List.set_cons_succ, List.length_cons, List.length_nil, List.map_cons, List.map_nil, List.cons_append, List.nil_append, List.append_nil, List.replicate_zero, List.replicate_succ, Nat.reduceAdd, Nat.reduceSub, Nat.sub_self, Nat.add_one_sub_one, if_true, if_false, if_pos, Bool.not_true, Bool.not_false, Bool.true_and, Bool.and_true, Bool.false_and, Bool.and_false, Nat.reduceEqDiff, Bool.false_eq_true, reduceCtorEq, fi_ii, fi_ib, Nat.zero_add, decide_true, decide_false, eq_self]
  · refine ⟨l % n, .lst [.int t, .int (l / n), .lst (cs.map .int)], Int.emod_nonneg _ (by omega), Int.emod_lt_of_pos _ hn, ⟨t, l / n, cs, rfl, by omega, by omega, Int.ediv_nonneg l0 (by omega), hne, hc, hlen⟩, ?_⟩
    simp only [d__law_draw, q, hd, hn, ix30, ix31, p_sSeq, p_sIf, p_sExpr, p_sRet, p_sRetV, p_sRetN, p_sNil, p_sPass, p_sBrk, p_sCnt, p_sAsg, p_sRaise, p_sFor, p_sTry, p_sSetIx, p_sUnp, p_sParN, p_sPar2, p_evD, p_eOp, p_eC, p_eVar, p_eSeq, p_eAnd, p_eOr, p_eNot, p_eIf, p_eChain, p_eCall, p_eLc, p_dYes, p_iAny, p_iLst, p_iRange1, p_iRange2, p_eMut, evO, lookO, allD, takeA, giveB, startC, endC, un_c, un_e, setAll, asgV, setCs, mkTup, mkLst, t_lt, t_fd, t_md, t_tb, t_ti, t_l1, t_l2, t_l3, t_mx, t_mn, t_ab, t_in, t_ng, t_add, t_sub, t_mul, t_pw, t_it1, t_it2, t_it3, mAppend, lLe, lLt, List.getElem?_cons_zero, List.getElem?_cons_succ, List.set_cons_zero, List.set_cons_succ, List.length_cons, List.length_nil, List.map_cons, List.map_nil, List.cons_append, List.nil_append, List.append_nil, List.replicate_zero, List.replicate_succ, Nat.reduceAdd, Nat.reduceSub, Nat.sub_self, Nat.add_one_sub_one, if_true, if_false, if_pos, Bool.not_true, Bool.not_false, Bool.true_and, Bool.and_true, Bool.false_and, Bool.and_false, Nat.reduceEqDiff, Bool.false_eq_true, reduceCtorEq, fi_ii, fi_ib, Nat.zero_add, decide_true, decide_false, eq_self]
/-! ### what is asked -/
theorem subC10 : subC 1 0 = true := rfl
theorem cn_str (x : Str) : Cell.noexc (vl (.str x)) = true := rfl
theorem f_asked0 (a b : Int) (h : 0 ≤ a) (hb : a < 2 ^ 99) : mkF 3 4 d__law_asked [vl (.int 0), vl (.int a), vl (.int b)] = .ok (vl (.int (LL a))) [.emp, .emp, .emp] := by
  rw [p_mkF]
  simp only [d__law_asked, f_lines_ok a h (by omega), t_eq, p_sSeq, p_sIf, p_sExpr, p_sRet, p_sRetV, p_sRetN, p_sNil, p_sPass, p_sBrk, p_sCnt, p_sAsg, p_sRaise, p_sFor, p_sTry, p_sSetIx, p_sUnp, p_sParN, p_sPar2, p_evD, p_eOp, p_eC, p_eVar, p_eSeq, p_eAnd, p_eOr, p_eNot, p_eIf, p_eChain, p_eCall, p_eLc, p_dYes, p_iAny, p_iLst, p_iRange1, p_iRange2, p_eMut, evO, lookO, allD, takeA, giveB, startC, endC, un_c, un_e, setAll, asgV, setCs, mkTup, mkLst, t_lt, t_fd, t_md, t_tb, t_ti, t_l1, t_l2, t_l3, t_mx, t_mn, t_ab, t_in, t_ng, t_add, t_sub, t_mul, t_pw, t_it1, t_it2, t_it3, mAppend, lLe, lLt, List.getElem?_cons_zero, List.getElem?_cons_succ, List.set_cons_zero, List.set_cons_succ, List.length_cons, List.length_nil, List.map_cons, List.map_nil, List.cons_append, List.nil_append, List.append_nil, List.replicate_zero, List.replicate_succ, Nat.reduceAdd, Nat.reduceSub, Nat.sub_self, Nat.add_one_sub_one, if_true, if_false, if_pos, Bool.not_true, Bool.not_false, Bool.true_and, Bool.and_true, Bool.false_and, Bool.and_false, Nat.reduceEqDiff, Bool.false_eq_true, reduceCtorEq, fi_ii, fi_ib, Nat.zero_add, decide_true, decide_false, eq_self, LL, Int.reduceBEq]
theorem f_asked0n (a b : Int) (h : a < 0) : mkF 3 4 d__law_asked [vl (.int 0), vl (.int a), vl (.int b)] = .ok (vl (.str "OutOfRange")) [.emp, .emp, .emp] := by
  rw [p_mkF]
  simp only [d__law_asked, f_lines_no a h, t_eq, f_told, subC10, cn_str, p_sSeq, p_sIf, p_sExpr, p_sRet, p_sRetV, p_sRetN, p_sNil, p_sPass, p_sBrk, p_sCnt, p_sAsg, p_sRaise, p_sFor, p_sTry, p_sSetIx, p_sUnp, p_sParN, p_sPar2, p_evD, p_eOp, p_eC, p_eVar, p_eSeq, p_eAnd, p_eOr, p_eNot, p_eIf, p_eChain, p_eCall, p_eLc, p_dYes, p_iAny, p_iLst, p_iRange1, p_iRange2, p_eMut, evO, lookO, allD, takeA, giveB, startC, endC, un_c, un_e, setAll, asgV, setCs, mkTup, mkLst, t_lt, t_fd, t_md, t_tb, t_ti, t_l1, t_l2, t_l3, t_mx, t_mn, t_ab, t_in, t_ng, t_add, t_sub, t_mul, t_pw, t_it1, t_it2, t_it3, mAppend, lLe, lLt, List.getElem?_cons_zero, List.getElem?_cons_succ, List.set_cons_zero, List.set_cons_succ, List.length_cons, List.length_nil, List.map_cons, List.map_nil, List.cons_append, List.nil_append, List.append_nil, List.replicate_zero, List.replicate_succ, Nat.reduceAdd, Nat.reduceSub, Nat.sub_self, Nat.add_one_sub_one, if_true, if_false, if_pos, Bool.not_true, Bool.not_false, Bool.true_and, Bool.and_true, Bool.false_and, Bool.and_false, Nat.reduceEqDiff, Bool.false_eq_true, reduceCtorEq, fi_ii, fi_ib, Nat.zero_add, decide_true, decide_false, eq_self, Int.reduceBEq]
theorem f_asked1 {v t : Int} (a b : Int) (hv : 1 ≤ t) (ht : t ≤ v) (hb : v < 2 ^ 90) (e : a = LL (v - 1) + (v - t)) : mkF 3 4 d__law_asked [vl (.int 1), vl (.int a), vl (.int b)] = .ok (vl (.tup [.int v, .int t])) [.emp, .emp, .emp] := by
  rw [p_mkF]
  simp only [d__law_asked, f_thing hv ht hb e, t_eq, p_sSeq, p_sIf, p_sExpr, p_sRet, p_sRetV, p_sRetN, p_sNil, p_sPass, p_sBrk, p_sCnt, p_sAsg, p_sRaise, p_sFor, p_sTry, p_sSetIx, p_sUnp, p_sParN, p_sPar2, p_evD, p_eOp, p_eC, p_eVar, p_eSeq, p_eAnd, p_eOr, p_eNot, p_eIf, p_eChain, p_eCall, p_eLc, p_dYes, p_iAny, p_iLst, p_iRange1, p_iRange2, p_eMut, evO, lookO, allD, takeA, giveB, startC, endC, un_c, un_e, setAll, asgV, setCs, mkTup, mkLst, t_lt, t_fd, t_md, t_tb, t_ti, t_l1, t_l2, t_l3, t_mx, t_mn, t_ab, t_in, t_ng, t_add, t_sub, t_mul, t_pw, t_it1, t_it2, t_it3, mAppend, lLe, lLt, List.getElem?_cons_zero, List.getElem?_cons_succ, List.set_cons_zero, List.set_cons_succ, List.length_cons, List.length_nil, List.map_cons, List.map_nil, List.cons_append, List.nil_append, List.append_nil, List.replicate_zero, List.replicate_succ, Nat.reduceAdd, Nat.reduceSub, Nat.sub_self, Nat.add_one_sub_one, if_true, if_false, if_pos, Bool.not_true, Bool.not_false, Bool.true_and, Bool.and_true, Bool.false_and, Bool.and_false, Nat.reduceEqDiff, Bool.false_eq_true, reduceCtorEq, fi_ii, fi_ib, Nat.zero_add, decide_true, decide_false, eq_self, Int.reduceBEq]
theorem f_asked1n (a b : Int) (h : a < 0) : mkF 3 4 d__law_asked [vl (.int 1), vl (.int a), vl (.int b)] = .ok (vl (.str "OutOfRange")) [.emp, .emp, .emp] := by
  rw [p_mkF]
  simp only [d__law_asked, f_thing_no a h, t_eq, f_told, subC10, cn_str, p_sSeq, p_sIf, p_sExpr, p_sRet, p_sRetV, p_sRetN, p_sNil, p_sPass, p_sBrk, p_sCnt, p_sAsg, p_sRaise, p_sFor, p_sTry, p_sSetIx, p_sUnp, p_sParN, p_sPar2, p_evD, p_eOp, p_eC, p_eVar, p_eSeq, p_eAnd, p_eOr, p_eNot, p_eIf, p_eChain, p_eCall, p_eLc, p_dYes, p_iAny, p_iLst, p_iRange1, p_iRange2, p_eMut, evO, lookO, allD, takeA, giveB, startC, endC, un_c, un_e, setAll, asgV, setCs, mkTup, mkLst, t_lt, t_fd, t_md, t_tb, t_ti, t_l1, t_l2, t_l3, t_mx, t_mn, t_ab, t_in, t_ng, t_add, t_sub, t_mul, t_pw, t_it1, t_it2, t_it3, mAppend, lLe, lLt, List.getElem?_cons_zero, List.getElem?_cons_succ, List.set_cons_zero, List.set_cons_succ, List.length_cons, List.length_nil, List.map_cons, List.map_nil, List.cons_append, List.nil_append, List.append_nil, List.replicate_zero, List.replicate_succ, Nat.reduceAdd, Nat.reduceSub, Nat.sub_self, Nat.add_one_sub_one, if_true, if_false, if_pos, Bool.not_true, Bool.not_false, Bool.true_and, Bool.and_true, Bool.false_and, Bool.and_false, Nat.reduceEqDiff, Bool.false_eq_true, reduceCtorEq, fi_ii, fi_ib, Nat.zero_add, decide_true, decide_false, eq_self, Int.reduceBEq]
theorem f_asked2 (a b : Int) (h : 0 ≤ a) (h1 : 1 ≤ b) : mkF 3 4 d__law_asked [vl (.int 2), vl (.int a), vl (.int b)] = .ok (vl (.int (if a - b + 1 > 0 then a - b + 1 else 0))) [.emp, .emp, .emp] := by
  rw [p_mkF]
  simp only [d__law_asked, f_sung a b h h1, t_eq, p_sSeq, p_sIf, p_sExpr, p_sRet, p_sRetV, p_sRetN, p_sNil, p_sPass, p_sBrk, p_sCnt, p_sAsg, p_sRaise, p_sFor, p_sTry, p_sSetIx, p_sUnp, p_sParN, p_sPar2, p_evD, p_eOp, p_eC, p_eVar, p_eSeq, p_eAnd, p_eOr, p_eNot, p_eIf, p_eChain, p_eCall, p_eLc, p_dYes, p_iAny, p_iLst, p_iRange1, p_iRange2, p_eMut, evO, lookO, allD, takeA, giveB, startC, endC, un_c, un_e, setAll, asgV, setCs, mkTup, mkLst, t_lt, t_fd, t_md, t_tb, t_ti, t_l1, t_l2, t_l3, t_mx, t_mn, t_ab, t_in, t_ng, t_add, t_sub, t_mul, t_pw, t_it1, t_it2, t_it3, mAppend, lLe, lLt, List.getElem?_cons_zero, List.getElem?_cons_succ, List.set_cons_zero, List.set_cons_succ, List.length_cons, List.length_nil, List.map_cons, List.map_nil, List.cons_append, List.nil_append, List.append_nil, List.replicate_zero, List.replicate_succ, Nat.reduceAdd, Nat.reduceSub, Nat.sub_self, Nat.add_one_sub_one, if_true, if_false, if_pos, Bool.not_true, Bool.not_false, Bool.true_and, Bool.and_true, Bool.false_and, Bool.and_false, Nat.reduceEqDiff, Bool.false_eq_true, reduceCtorEq, fi_ii, fi_ib, Nat.zero_add, decide_true, decide_false, eq_self, Int.reduceBEq]
theorem f_asked2n1 (a b : Int) (h : a < 0) : mkF 3 4 d__law_asked [vl (.int 2), vl (.int a), vl (.int b)] = .ok (vl (.str "OutOfRange")) [.emp, .emp, .emp] := by
  rw [p_mkF]
  simp only [d__law_asked, f_sung_no1 a b h, t_eq, f_told, subC10, cn_str, p_sSeq, p_sIf, p_sExpr, p_sRet, p_sRetV, p_sRetN, p_sNil, p_sPass, p_sBrk, p_sCnt, p_sAsg, p_sRaise, p_sFor, p_sTry, p_sSetIx, p_sUnp, p_sParN, p_sPar2, p_evD, p_eOp, p_eC, p_eVar, p_eSeq, p_eAnd, p_eOr, p_eNot, p_eIf, p_eChain, p_eCall, p_eLc, p_dYes, p_iAny, p_iLst, p_iRange1, p_iRange2, p_eMut, evO, lookO, allD, takeA, giveB, startC, endC, un_c, un_e, setAll, asgV, setCs, mkTup, mkLst, t_lt, t_fd, t_md, t_tb, t_ti, t_l1, t_l2, t_l3, t_mx, t_mn, t_ab, t_in, t_ng, t_add, t_sub, t_mul, t_pw, t_it1, t_it2, t_it3, mAppend, lLe, lLt, List.getElem?_cons_zero, List.getElem?_cons_succ, List.set_cons_zero, List.set_cons_succ, List.length_cons, List.length_nil, List.map_cons, List.map_nil, List.cons_append, List.nil_append, List.append_nil, List.replicate_zero, List.replicate_succ, Nat.reduceAdd, Nat.reduceSub, Nat.sub_self, Nat.add_one_sub_one, if_true, if_false, if_pos, Bool.not_true, Bool.not_false, Bool.true_and, Bool.and_true, Bool.false_and, Bool.and_false, Nat.reduceEqDiff, Bool.false_eq_true, reduceCtorEq, fi_ii, fi_ib, Nat.zero_add, decide_true, decide_false, eq_self, Int.reduceBEq]
theorem f_asked2n2 (a b : Int) (h : 0 ≤ a) (h1 : b < 1) : mkF 3 4 d__law_asked [vl (.int 2), vl (.int a), vl (.int b)] = .ok (vl (.str "OutOfRange")) [.emp, .emp, .emp] := by
  rw [p_mkF]
  simp only [d__law_asked, f_sung_no2 a b h h1, t_eq, f_told, subC10, cn_str, p_sSeq, p_sIf, p_sExpr, p_sRet, p_sRetV, p_sRetN, p_sNil, p_sPass, p_sBrk, p_sCnt, p_sAsg, p_sRaise, p_sFor, p_sTry, p_sSetIx, p_sUnp, p_sParN, p_sPar2, p_evD, p_eOp, p_eC, p_eVar, p_eSeq, p_eAnd, p_eOr, p_eNot, p_eIf, p_eChain, p_eCall, p_eLc, p_dYes, p_iAny, p_iLst, p_iRange1, p_iRange2, p_eMut, evO, lookO, allD, takeA, giveB, startC, endC, un_c, un_e, setAll, asgV, setCs, mkTup, mkLst, t_lt, t_fd, t_md, t_tb, t_ti, t_l1, t_l2, t_l3, t_mx, t_mn, t_ab, t_in, t_ng, t_add, t_sub, t_mul, t_pw, t_it1, t_it2, t_it3, mAppend, lLe, lLt, List.getElem?_cons_zero, List.getElem?_cons_succ, List.set_cons_zero, List.set_cons_succ, List.length_cons, List.length_nil, List.map_cons, List.map_nil, List.cons_append, List.nil_append, List.append_nil, List.replicate_zero, List.replicate_succ, Nat.reduceAdd, Nat.reduceSub, Nat.sub_self, Nat.add_one_sub_one, if_true, if_false, if_pos, Bool.not_true, Bool.not_false, Bool.true_and, Bool.and_true, Bool.false_and, Bool.and_false, Nat.reduceEqDiff, Bool.false_eq_true, reduceCtorEq, fi_ii, fi_ib, Nat.zero_add, decide_true, decide_false, eq_self, Int.reduceBEq]
def NX (v t line : Int) : Int := let w := if v > t then v else t; if line ≤ LL (w - 1) + w - t then LL (w - 1) + w - t else LL w + (w + 1) - t
theorem f_asked3 {v s t line : Int} (hs : 1 ≤ s) (hsv : s ≤ v) (ht : 1 ≤ t) (hb : v < 2 ^ 80) (hb2 : t < 2 ^ 80) (e : line = LL (v - 1) + (v - s)) : mkF 3 4 d__law_asked [vl (.int 3), vl (.int t), vl (.int line)] = .ok (vl (.int (NX v t line))) [.emp, .emp, .emp] := by
  rw [p_mkF]
  simp only [d__law_asked, f_next hs hsv ht hb hb2 e, t_eq, p_sSeq, p_sIf, p_sExpr, p_sRet, p_sRetV, p_sRetN, p_sNil, p_sPass, p_sBrk, p_sCnt, p_sAsg, p_sRaise, p_sFor, p_sTry, p_sSetIx, p_sUnp, p_sParN, p_sPar2, p_evD, p_eOp, p_eC, p_eVar, p_eSeq, p_eAnd, p_eOr, p_eNot, p_eIf, p_eChain, p_eCall, p_eLc, p_dYes, p_iAny, p_iLst, p_iRange1, p_iRange2, p_eMut, evO, lookO, allD, takeA, giveB, startC, endC, un_c, un_e, setAll, asgV, setCs, mkTup, mkLst, t_lt, t_fd, t_md, t_tb, t_ti, t_l1, t_l2, t_l3, t_mx, t_mn, t_ab, t_in, t_ng, t_add, t_sub, t_mul, t_pw, t_it1, t_it2, t_it3, mAppend, lLe, lLt, List.getElem?_cons_zero, List.getElem?_cons_succ, List.set_cons_zero, List.set_cons_succ, List.length_cons, List.length_nil, List.map_cons, List.map_nil, List.cons_append, List.nil_append, List.append_nil, List.replicate_zero, List.replicate_succ, Nat.reduceAdd, Nat.reduceSub, Nat.sub_self, Nat.add_one_sub_one, if_true, if_false, if_pos, Bool.not_true, Bool.not_false, Bool.true_and, Bool.and_true, Bool.false_and, Bool.and_false, Nat.reduceEqDiff, Bool.false_eq_true, reduceCtorEq, fi_ii, fi_ib, Nat.zero_add, decide_true, decide_false, eq_self, Int.reduceBEq, NX]
theorem f_asked3n1 (a b : Int) (h : a < 1) : mkF 3 4 d__law_asked [vl (.int 3), vl (.int a), vl (.int b)] = .ok (vl (.str "OutOfRange")) [.emp, .emp, .emp] := by
  rw [p_mkF]
  simp only [d__law_asked, f_next_no1 a b h, t_eq, f_told, subC10, cn_str, p_sSeq, p_sIf, p_sExpr, p_sRet, p_sRetV, p_sRetN, p_sNil, p_sPass, p_sBrk, p_sCnt, p_sAsg, p_sRaise, p_sFor, p_sTry, p_sSetIx, p_sUnp, p_sParN, p_sPar2, p_evD, p_eOp, p_eC, p_eVar, p_eSeq, p_eAnd, p_eOr, p_eNot, p_eIf, p_eChain, p_eCall, p_eLc, p_dYes, p_iAny, p_iLst, p_iRange1, p_iRange2, p_eMut, evO, lookO, allD, takeA, giveB, startC, endC, un_c, un_e, setAll, asgV, setCs, mkTup, mkLst, t_lt, t_fd, t_md, t_tb, t_ti, t_l1, t_l2, t_l3, t_mx, t_mn, t_ab, t_in, t_ng, t_add, t_sub, t_mul, t_pw, t_it1, t_it2, t_it3, mAppend, lLe, lLt, List.getElem?_cons_zero, List.getElem?_cons_succ, List.set_cons_zero, List.set_cons_succ, List.length_cons, List.length_nil, List.map_cons, List.map_nil, List.cons_append, List.nil_append, List.append_nil, List.replicate_zero, List.replicate_succ, Nat.reduceAdd, Nat.reduceSub, Nat.sub_self, Nat.add_one_sub_one, if_true, if_false, if_pos, Bool.not_true, Bool.not_false, Bool.true_and, Bool.and_true, Bool.false_and, Bool.and_false, Nat.reduceEqDiff, Bool.false_eq_true, reduceCtorEq, fi_ii, fi_ib, Nat.zero_add, decide_true, decide_false, eq_self, Int.reduceBEq]
theorem f_asked3n2 (a b : Int) (h : 1 ≤ a) (h2 : b < 0) : mkF 3 4 d__law_asked [vl (.int 3), vl (.int a), vl (.int b)] = .ok (vl (.str "OutOfRange")) [.emp, .emp, .emp] := by
  rw [p_mkF]
  simp only [d__law_asked, f_next_no2 a b h h2, t_eq, f_told, subC10, cn_str, p_sSeq, p_sIf, p_sExpr, p_sRet, p_sRetV, p_sRetN, p_sNil, p_sPass, p_sBrk, p_sCnt, p_sAsg, p_sRaise, p_sFor, p_sTry, p_sSetIx, p_sUnp, p_sParN, p_sPar2, p_evD, p_eOp, p_eC, p_eVar, p_eSeq, p_eAnd, p_eOr, p_eNot, p_eIf, p_eChain, p_eCall, p_eLc, p_dYes, p_iAny, p_iLst, p_iRange1, p_iRange2, p_eMut, evO, lookO, allD, takeA, giveB, startC, endC, un_c, un_e, setAll, asgV, setCs, mkTup, mkLst, t_lt, t_fd, t_md, t_tb, t_ti, t_l1, t_l2, t_l3, t_mx, t_mn, t_ab, t_in, t_ng, t_add, t_sub, t_mul, t_pw, t_it1, t_it2, t_it3, mAppend, lLe, lLt, List.getElem?_cons_zero, List.getElem?_cons_succ, List.set_cons_zero, List.set_cons_succ, List.length_cons, List.length_nil, List.map_cons, List.map_nil, List.cons_append, List.nil_append, List.append_nil, List.replicate_zero, List.replicate_succ, Nat.reduceAdd, Nat.reduceSub, Nat.sub_self, Nat.add_one_sub_one, if_true, if_false, if_pos, Bool.not_true, Bool.not_false, Bool.true_and, Bool.and_true, Bool.false_and, Bool.and_false, Nat.reduceEqDiff, Bool.false_eq_true, reduceCtorEq, fi_ii, fi_ib, Nat.zero_add, decide_true, decide_false, eq_self, Int.reduceBEq]
end K56

set_option Elab.async false
set_option linter.all false
set_option maxRecDepth 100000
set_option maxHeartbeats 2000000
namespace K56
open PySem PySem.Spec PyProof.Rows L2 Sm
/-! ### the song -/
def vsg (v : Nat) : List (Int × Int) := (List.range v).map fun (k : Nat) => ((v : Int), (v : Int) - (k : Int))
def sg : Nat → List (Int × Int)
  | 0 => []
  | n + 1 => sg n ++ vsg (n + 1)
def tp (p : Int × Int) : D := .tup [.int p.1, .int p.2]
theorem LL_succ (n : Nat) : LL ((n : Int) + 1) = LL n + (n + 1) := by
  have := LL_step ((n : Int) + 1)
  rw [Int.add_sub_cancel] at this
  exact this
theorem sg_len : ∀ n : Nat, ((sg n).length : Int) = LL n
  | 0 => rfl
  | n + 1 => by
    unfold sg vsg
    rw [List.length_append, List.length_map, List.length_range]
    have := sg_len n
    have := LL_succ n
    push_cast
    omega
theorem sg_at : ∀ (n i : Nat) (v t : Int), (sg n)[i]? = some (v, t) → 1 ≤ t ∧ t ≤ v ∧ v ≤ n ∧ (i : Int) = LL (v - 1) + (v - t)
  | 0, i, v, t, h => by simp [sg] at h
  | n + 1, i, v, t, h => by
    unfold sg at h
    have hl := sg_len n
    by_cases q : i < (sg n).length
    · rw [List.getElem?_append_left q] at h
      obtain ⟨h1, h2, h3, h4⟩ := sg_at n i v t h
      exact ⟨h1, h2, by omega, h4⟩
    · rw [List.getElem?_append_right (by omega)] at h
      unfold vsg at h
      rw [List.getElem?_map] at h
      cases e : (List.range (n + 1))[i - (sg n).length]? with
      | none => rw [e] at h; cases h
      | some k =>
        rw [e] at h
        obtain ⟨hk, e2⟩ := List.getElem?_eq_some_iff.mp e
        rw [List.getElem_range] at e2
        rw [List.length_range] at hk
        simp only [Option.map_some, Option.some.injEq, Prod.mk.injEq] at h
        obtain ⟨h1, h2⟩ := h
        have e3 : v - 1 = (n : Int) := by omega
        rw [e3]
        omega
theorem cnt_range (c t : Int) : ∀ m : Nat, ((List.range m).filter fun k : Nat => (c - (k : Int)) == t).length = if 0 ≤ c - t ∧ c - t < m then 1 else 0
  | 0 => by
    have : ¬ (0 ≤ c - t ∧ c - t < ((0 : Nat) : Int)) := by omega
    rw [if_neg this]
    rfl
  | m + 1 => by
    rw [List.range_succ, List.filter_append, List.length_append, cnt_range c t m]
    by_cases e : (c - (m : Int)) = t
    · have e1 : ((c - (m : Int)) == t) = true := by simpa using e
      simp only [List.filter_cons, e1, if_true, List.filter_nil, List.length_cons, List.length_nil]
      rw [if_neg (by omega), if_pos (by omega)]
    · have e1 : ((c - (m : Int)) == t) = false := by simpa using e
      simp only [List.filter_cons, e1, List.filter_nil, List.length_nil, Bool.false_eq_true, if_false, Nat.add_zero]
      by_cases q : 0 ≤ c - t ∧ c - t < m
      · rw [if_pos q, if_pos (by omega)]
      · rw [if_neg q, if_neg (by omega)]
theorem cnt_sg (t : Int) (ht : 1 ≤ t) : ∀ n : Nat, (((sg n).filter fun p => p.2 == t).length : Int) = if t ≤ n then n - t + 1 else 0
  | 0 => by rw [if_neg (by omega)]; rfl
  | n + 1 => by
    unfold sg
    rw [List.filter_append, List.length_append]
    have h1 := cnt_sg t ht n
    have h2 : ((vsg (n + 1)).filter fun p => p.2 == t).length = if 0 ≤ ((n + 1 : Nat) : Int) - t ∧ ((n + 1 : Nat) : Int) - t < ((n + 1 : Nat) : Int) then 1 else 0 := by
      rw [← cnt_range]
      unfold vsg
      rw [List.filter_map, List.length_map]
      rfl
    rw [Int.natCast_add, h1, h2]
    by_cases q : t ≤ n
    · rw [if_pos q, if_pos (by omega), if_pos (by omega)]; omega
    · rw [if_neg q]
      by_cases q2 : t ≤ n + 1
      · rw [if_pos (by omega), if_pos (by omega)]; omega
      · rw [if_neg (by omega), if_neg (by omega)]; omega
/-! ### which line is next -/
def kw (w t : Int) : Int := LL (w - 1) + (w - t)
theorem kw_mono {w z t : Int} (h0 : 1 ≤ w) (h : w ≤ z) : kw w t ≤ kw z t := by
  have := LL_mono (v := w - 1) (w := z - 1) (by omega) (by omega)
  unfold kw
  omega
theorem NX_ge {v s t line : Int} (hs : 1 ≤ s) (hsv : s ≤ v) (ht : 1 ≤ t) (e : line = LL (v - 1) + (v - s)) : line ≤ NX v t line ∧ ∃ w, t ≤ w ∧ NX v t line = kw w t := by
  unfold NX
  generalize hW : (if v > t then v else t) = w
  have hw : v ≤ w ∧ t ≤ w := by rw [← hW]; split <;> omega
  by_cases q : line ≤ LL (w - 1) + w - t
  · simp only [q, if_true]
    exact ⟨trivial, w, hw.2, by unfold kw; omega⟩
  · simp only [q, if_false]
    refine ⟨?_, w + 1, by omega, by unfold kw; rw [Int.add_sub_cancel]; omega⟩
    have h1 := LL_mono (v := v) (w := w) (by omega) hw.1
    have h2 := LL_step v
    omega
theorem NX_le {v s t line w : Int} (hs : 1 ≤ s) (hsv : s ≤ v) (ht : 1 ≤ t) (e : line = LL (v - 1) + (v - s)) (hw : t ≤ w) (hk : line ≤ kw w t) : NX v t line ≤ kw w t := by
  have hvw : v ≤ w := by
    by_cases q : v ≤ w
    · exact q
    · have h1 := LL_mono (v := w) (w := v - 1) (by omega) (by omega)
      have h2 := LL_step w
      unfold kw at hk
      omega
  unfold NX
  generalize hW : (if v > t then v else t) = z
  have hz : z ≤ w ∧ 1 ≤ z := by rw [← hW]; split <;> omega
  have hm := kw_mono (t := t) hz.2 hz.1
  by_cases q : line ≤ LL (z - 1) + z - t
  · simp only [q, if_true]
    unfold kw at hm ⊢
    omega
  · simp only [q, if_false]
    have hne : z ≠ w := fun z' => by
      subst z'
      unfold kw at hk
      omega
    have hm2 := kw_mono (t := t) (w := z + 1) (z := w) (by omega) (by omega)
    unfold kw at hm2 ⊢
    rw [Int.add_sub_cancel] at hm2
    omega
end K56

set_option Elab.async false
set_option linter.all false
set_option maxRecDepth 100000
set_option maxHeartbeats 4000000
namespace Sm
open PySem L2
/-- a comprehension over ints that maps each one to an int -/
theorem lcL_map {f : Int → Int} {e : DE} {i : Nat} {σ : Env} (he : ∀ x : Int, e ((wipeE σ [i]).set i (vl (.int x))) = .ok (vl (.int (f x))) ((wipeE σ [i]).set i (vl (.int x)))) :
    ∀ (xs : List Int) (acc : List D) (ρ : Env), wipeE ρ [i] = wipeE σ [i] → acc.length + xs.length ≤ SZ → lcL (.nm i) dYes e [i] (xs.map .int) acc ρ = .ok (ow (.lst (acc ++ (xs.map f).map .int))) (wipeE σ [i])
  | [], acc, ρ, hr, hl => by
    simp only [List.map_nil, lcL, List.append_nil, hr]
  | x :: xs, acc, ρ, hr, hl => by
    rw [List.length_cons] at hl
    have h1 : acc.length < SZ := by omega
    have w : wipeE ((wipeE σ [i]).set i (vl (.int x))) [i] = wipeE σ [i] := by simp [wipeE]
    have ih := lcL_map he xs (acc ++ [.int (f x)]) (wipeE σ [i]) (by simp [wipeE]) (by rw [List.length_append, List.length_singleton]; omega)
    simp only [List.map_cons, lcL, asgV, hr, dYes, he, h1, if_true, w]
    rw [ih, List.append_assoc]
    rfl
/-- a comprehension that picks -/
theorem lcL_pick {p : D → Bool} {c e : DE} {i : Nat} {σ : Env} (P : D → Prop) (hc : ∀ d, P d → c ((wipeE σ [i]).set i (vl d)) = .ok (vl (.bl (p d))) ((wipeE σ [i]).set i (vl d)))
    (he : ∀ d, P d → e ((wipeE σ [i]).set i (vl d)) = .ok (vl d) ((wipeE σ [i]).set i (vl d))) :
    ∀ (xs : List D) (acc : List D) (ρ : Env), (∀ d ∈ xs, P d) → wipeE ρ [i] = wipeE σ [i] → acc.length + xs.length ≤ SZ → lcL (.nm i) c e [i] xs acc ρ = .ok (ow (.lst (acc ++ xs.filter p))) (wipeE σ [i])
  | [], acc, ρ, hP, hr, hl => by
    simp only [lcL, List.filter_nil, List.append_nil, hr]
  | x :: xs, acc, ρ, hP, hr, hl => by
    rw [List.length_cons] at hl
    have h1 : acc.length < SZ := by omega
    have w : wipeE ((wipeE σ [i]).set i (vl x)) [i] = wipeE σ [i] := by simp [wipeE]
    have w2 : wipeE (wipeE σ [i]) [i] = wipeE σ [i] := by simp [wipeE]
    have px := hP x List.mem_cons_self
    have pr : ∀ d ∈ xs, P d := fun d hd => hP d (List.mem_cons_of_mem _ hd)
    cases q : p x with
    | false =>
      have ih := lcL_pick P hc he xs acc (wipeE σ [i]) pr w2 (by omega)
      simp only [lcL, asgV, hr, hc x px, q, w, List.filter_cons, Bool.false_eq_true, if_false]
      exact ih
    | true =>
      have ih := lcL_pick P hc he xs (acc ++ [x]) (wipeE σ [i]) pr w2 (by rw [List.length_append, List.length_singleton]; omega)
      simp only [lcL, asgV, hr, hc x px, he x px, q, w, h1, List.filter_cons, if_true]
      rw [ih, List.append_assoc]
      rfl
end Sm
namespace K56
open PySem PySem.Spec PyProof.Rows L2 Sm
theorem cut63 (ns : List Int) (h : ns.length ≤ 63) : fSl2 [.frl (ns.map .int), .int 63] = some (ow (.lst (ns.map .int))) := by
  have e : Sm.cutD (ns.map D.int) none (some 63) = ns.map D.int := by
    unfold Sm.cutD
    rw [HT.sIx_none, show HT.sIx (ns.map D.int).length (ns.map D.int).length (some 63) = min 63 (ns.map D.int).length from HT.sIx_nat _ _ 63, List.drop_zero, Nat.sub_zero, Nat.min_eq_right (by rw [List.length_map]; exact h), List.take_length]
  show cutC (.frl (ns.map .int)) none (some 63) = _
  unfold cutC
  simp only [e]
theorem f_open (ns : List Int) (h : ns.length ≤ 63) : ∃ d, Dr 0 d ∧ mkF 1 3 d__law_open [vl (.frl (ns.map .int))] = .ok (ow d) [.emp] := by
  refine ⟨.lst [.int 0, .int 0, .lst ((ns.map fun x => if x < 0 then -x else x).map .int ++ [.int 0])], ⟨0, 0, (ns.map fun x => if x < 0 then -x else x) ++ [0], by rw [List.map_append]; rfl, by omega, by omega, by omega, by simp, ?_, by simp; omega⟩, ?_⟩
  · intro c hc
    rcases List.mem_append.mp hc with hc | hc
    · obtain ⟨x, _, rfl⟩ := List.mem_map.mp hc
      split <;> omega
    · rw [List.mem_singleton.mp hc]; exact Int.le_refl _
  · have hz : 63 < SZ := by decide
    have lc := lcL_map (f := fun x => if x < 0 then -x else x) (e := eOp fAbs [.ex (eOp fInt [.nm 2])]) (i := 2) (σ := [vl (.frl (ns.map .int)), .emp, .emp]) (fun x => by simp only [wipeE, p_sSeq, p_sIf, p_sExpr, p_sRet, p_sRetV, p_sRetN, p_sNil, p_sPass, p_sBrk, p_sCnt, p_sAsg, p_sRaise, p_sFor, p_sTry, p_sSetIx, p_sUnp, p_sParN, p_sPar2, p_evD, p_eOp, p_eC, p_eVar, p_eSeq, p_eAnd, p_eOr, p_eNot, p_eIf, p_eChain, p_eCall, p_eLc, p_dYes, p_iAny, p_iLst, p_iRange1, p_iRange2, p_eMut, evO, lookO, allD, takeA, giveB, startC, endC, un_c, un_e, setAll, asgV, setCs, mkTup, mkLst, t_lt, t_fd, t_md, t_tb, t_ti, t_l1, t_l2, t_l3, t_mx, t_mn, t_ab, t_in, t_ng, t_add, t_sub, t_mul, t_pw, t_it1, t_it2, t_it3, mAppend, lLe, lLt, List.getElem?_cons_zero, List.getElem?_cons_succ, List.set_cons_zero, List.set_cons_succ, List.length_cons, List.length_nil, List.map_cons, List.map_nil, List.cons_append, List.nil_append, List.append_nil, List.replicate_zero, List.replicate_succ, Nat.reduceAdd, Nat.reduceSub, Nat.sub_self, Nat.add_one_sub_one, if_true, if_false, if_pos, Bool.not_true, Bool.not_false, Bool.true_and, Bool.and_true, Bool.false_and, Bool.and_false, Nat.reduceEqDiff, Bool.false_eq_true, reduceCtorEq, fi_ii, fi_ib, Nat.zero_add, decide_true, decide_false, eq_self]) ns [] _ rfl (by simp; omega)
    have hl : ((ns.map fun x => if x < 0 then -x else x).map D.int).length + 1 ≤ SZ := by rw [List.length_map, List.length_map]; omega
    have h1 : 1 ≤ SZ := by decide
    have h3 : 3 ≤ SZ := by decide
    rw [p_mkF]
    simp only [d__law_open, cut63 ns h, lc, p_sSeq, p_sIf, p_sExpr, p_sRet, p_sRetV, p_sRetN, p_sNil, p_sPass, p_sBrk, p_sCnt, p_sAsg, p_sRaise, p_sFor, p_sTry, p_sSetIx, p_sUnp, p_sParN, p_sPar2, p_evD, p_eOp, p_eC, p_eVar, p_eSeq, p_eAnd, p_eOr, p_eNot, p_eIf, p_eChain, p_eCall, p_eLc, p_dYes, p_iAny, p_iLst, p_iRange1, p_iRange2, p_eMut, evO, lookO, allD, takeA, giveB, startC, endC, un_c, un_e, setAll, asgV, setCs, mkTup, mkLst, t_lt, t_fd, t_md, t_tb, t_ti, t_l1, t_l2, t_l3, t_mx, t_mn, t_ab, t_in, t_ng, t_add, t_sub, t_mul, t_pw, t_it1, t_it2, t_it3, mAppend, lLe, lLt, List.getElem?_cons_zero, List.getElem?_cons_succ, List.set_cons_zero, List.set_cons_succ, List.length_cons, List.length_nil, List.map_cons, List.map_nil, List.cons_append, List.nil_append, List.append_nil, List.replicate_zero, List.replicate_succ, Nat.reduceAdd, Nat.reduceSub, Nat.sub_self, Nat.add_one_sub_one, if_true, if_false, if_pos, Bool.not_true, Bool.not_false, Bool.true_and, Bool.and_true, Bool.false_and, Bool.and_false, Nat.reduceEqDiff, Bool.false_eq_true, reduceCtorEq, fi_ii, fi_ib, Nat.zero_add, decide_true, decide_false, eq_self, wipeE, fAdd, hl, h1, h3]
/-! ### the song is laid -/
theorem inner (v : Int) {s c1 c2 c6 c7 c8 c9 c10 c11 c12 c13 : Cell} : ∀ (xs : List Int) (acc : List D) (c5 : Cell), acc.length + xs.length ≤ SZ → ∃ c5', forL (.nm 5) (sExpr (eMut mAppend 3 [eSeq mkTup [eVar 4, eOp fSub [.nm 4, .nm 5]]])) (xs.map .int) [s, c1, c2, ow (.lst acc), vl (.int v), c5, c6, c7, c8, c9, c10, c11, c12, c13] =
    .nx [s, c1, c2, ow (.lst (acc ++ xs.map fun k => D.tup [.int v, .int (v - k)])), vl (.int v), c5', c6, c7, c8, c9, c10, c11, c12, c13]
  | [], acc, c5, h => ⟨c5, by simp only [List.map_nil, forL, List.append_nil]⟩
  | x :: xs, acc, c5, h => by
    rw [List.length_cons] at h
    obtain ⟨c5', ih⟩ := inner v xs (acc ++ [.tup [.int v, .int (v - x)]]) (vl (.int x)) (by rw [List.length_append, List.length_singleton]; omega)
    have h1 : acc.length < SZ := by omega
    have h2 : 2 ≤ SZ := by decide
    refine ⟨c5', ?_⟩
    simp only [List.map_cons, forL, p_sSeq, p_sIf, p_sExpr, p_sRet, p_sRetV, p_sRetN, p_sNil, p_sPass, p_sBrk, p_sCnt, p_sAsg, p_sRaise, p_sFor, p_sTry, p_sSetIx, p_sUnp, p_sParN, p_sPar2, p_evD, p_eOp, p_eC, p_eVar, p_eSeq, p_eAnd, p_eOr, p_eNot, p_eIf, p_eChain, p_eCall, p_eLc, p_dYes, p_iAny, p_iLst, p_iRange1, p_iRange2, p_eMut, evO, lookO, allD, takeA, giveB, startC, endC, un_c, un_e, setAll, asgV, setCs, mkTup, mkLst, t_lt, t_fd, t_md, t_tb, t_ti, t_l1, t_l2, t_l3, t_mx, t_mn, t_ab, t_in, t_ng, t_add, t_sub, t_mul, t_pw, t_it1, t_it2, t_it3, mAppend, lLe, lLt, List.getElem?_cons_zero, List.getElem?_cons_succ, List.set_cons_zero, List.set_cons_succ, List.length_cons, List.length_nil, List.map_cons, List.map_nil, List.cons_append, List.nil_append, List.append_nil, List.replicate_zero, List.replicate_succ, Nat.reduceAdd, Nat.reduceSub, Nat.sub_self, Nat.add_one_sub_one, if_true, if_false, if_pos, Bool.not_true, Bool.not_false, Bool.true_and, Bool.and_true, Bool.false_and, Bool.and_false, Nat.reduceEqDiff, Bool.false_eq_true, reduceCtorEq, fi_ii, fi_ib, Nat.zero_add, decide_true, decide_false, eq_self, h1, h2]
    rw [ih, List.append_assoc]
    rfl
theorem rngD_eq (lo : Int) (n : Nat) : rngD lo n = ((List.range n).map fun i : Nat => lo + (i : Int)).map .int := by
  unfold rngD
  rw [List.map_map]
  rfl
theorem vsg_eq (v : Nat) : ((List.range v).map fun i : Nat => (0 : Int) + (i : Int)).map (fun k => D.tup [.int (v : Int), .int ((v : Int) - k)]) = (vsg v).map tp := by
  unfold vsg
  rw [List.map_map, List.map_map]
  apply List.map_congr_left
  intro k _
  simp [tp]
theorem sg_small (n : Nat) (h : n ≤ 25) : (sg n).length ≤ 325 := by
  have h1 := sg_len n
  have h2 := LL_mono (v := n) (w := 25) (by omega) (by omega)
  have h3 : LL 25 = 325 := by decide
  omega
theorem el1 (n m : Nat) : (List.range' n (m + 1)).map (fun i : Nat => D.int (1 + (i : Int))) = D.int ((n + 1 : Nat) : Int) :: (List.range' (n + 1) m).map (fun i : Nat => D.int (1 + (i : Int))) := by
  have e1 : (1 : Int) + (n : Int) = ((n + 1 : Nat) : Int) := by omega
  rw [List.range'_succ]
  rw [List.map_cons]
  show D.int (1 + (n : Int)) :: _ = _
  rw [e1]
theorem forL_cons {t : Tg} {b : DS} {d : D} {ds : List D} {ρ : Sm.Env} : forL t b (d :: ds) ρ = match asgV t d ρ with
    | none => .stk
    | some ρ1 => match b ρ1 with
      | .nx ρ2 => forL t b ds ρ2
      | .ct ρ2 => forL t b ds ρ2
      | .bk ρ2 => .nx ρ2
      | r => r := rfl
theorem forL_nx {t : Tg} {b : DS} {d : D} {ds : List D} {ρ ρ1 ρ2 : Sm.Env} (h1 : asgV t d ρ = some ρ1) (h2 : b ρ1 = .nx ρ2) : forL t b (d :: ds) ρ = forL t b ds ρ2 := by
  rw [forL_cons, h1]
  simp only [h2]
theorem verse (z : Int) (k : Nat) (hz : z.toNat = k) (hr : rngOk z = true) {s c1 c2 c3 c5 c6 c7 c8 c9 c10 c11 c12 c13 : Cell} {r : SR}
    (h : forL (.nm 5) (sExpr (eMut mAppend 3 [eSeq mkTup [eVar 4, eOp fSub [.nm 4, .nm 5]]])) (((List.range k).map fun i : Nat => (0 : Int) + (i : Int)).map .int) [s, c1, c2, c3, vl (.int z), c5, c6, c7, c8, c9, c10, c11, c12, c13] = r) :
    sFor (iRange1 (eVar 4)) (.nm 5) (sExpr (eMut mAppend 3 [eSeq mkTup [eVar 4, eOp fSub [.nm 4, .nm 5]]])) [s, c1, c2, c3, vl (.int z), c5, c6, c7, c8, c9, c10, c11, c12, c13] = r := by
  simp only [p_sFor, p_iRange1, p_eVar, List.getElem?_cons_succ, List.getElem?_cons_zero, hr, if_true, hz, rngD_eq]
  exact h
theorem outer {s c1 c2 c6 c7 c8 c9 c10 c11 c12 c13 : Cell} (m : Nat) : ∀ (n : Nat) (c4 c5 : Cell), n + m ≤ 25 → ∃ c4' c5', forL (.nm 4) (sFor (iRange1 (eVar 4)) (.nm 5) (sExpr (eMut mAppend 3 [eSeq mkTup [eVar 4, eOp fSub [.nm 4, .nm 5]]]))) ((List.range' n m).map fun i : Nat => D.int (1 + (i : Int))) [s, c1, c2, ow (.lst ((sg n).map tp)), c4, c5, c6, c7, c8, c9, c10, c11, c12, c13] =
    .nx [s, c1, c2, ow (.lst ((sg (n + m)).map tp)), c4', c5', c6, c7, c8, c9, c10, c11, c12, c13] := by
  induction m with
  | zero => exact fun n c4 c5 h => ⟨c4, c5, by simp only [List.range'_zero, List.map_nil, forL, Nat.add_zero]⟩
  | succ m ih =>
    intro n c4 c5 h
    have hs := sg_small n (by omega)
    have hz : 400 < SZ := by decide
    obtain ⟨c5', h5⟩ := inner ((n + 1 : Nat) : Int) (s := s) (c1 := c1) (c2 := c2) (c6 := c6) (c7 := c7) (c8 := c8) (c9 := c9) (c10 := c10) (c11 := c11) (c12 := c12) (c13 := c13) ((List.range (n + 1)).map fun i : Nat => (0 : Int) + (i : Int)) ((sg n).map tp) c5 (by rw [List.length_map, List.length_map, List.length_range]; omega)
    rw [vsg_eq, ← List.map_append, show sg n ++ vsg (n + 1) = sg (n + 1) from rfl] at h5
    obtain ⟨c4'', c5'', ih⟩ := ih (n + 1) (vl (.int ((n + 1 : Nat) : Int))) c5' (by omega)
    have hr : rngOk ((n + 1 : Nat) : Int) = true := by unfold rngOk; rw [decide_eq_true (by omega), decide_eq_true (by omega)]; rfl
    have hv := verse _ _ (Int.toNat_natCast (n + 1)) hr h5
    refine ⟨c4'', c5'', ?_⟩
    rw [el1, forL_nx rfl hv, show n + (m + 1) = n + 1 + m by omega]
    exact ih
end K56

set_option Elab.async false
set_option linter.all false
set_option maxRecDepth 100000
set_option maxHeartbeats 4000000
namespace K56
open PySem PySem.Spec PyProof.Rows L2 Sm
def t0 : DS := sAsg 7 (eOp fIx [.ex (eSeq mkLst [eC (.int 0), eOp fSub [.ex (eOp fLen [.nm 3]), .ex (eC (.int 1))], eCall (mkF 2 6 d__law_draw) [.nm 1, .ex (eOp fLen [.nm 3])], eCall (mkF 2 6 d__law_draw) [.nm 1, .ex (eOp fLen [.nm 3])], eCall (mkF 2 6 d__law_draw) [.nm 1, .ex (eOp fLen [.nm 3])]]), .nm 6])
def t1 : DS := sAsg 5 (eOp fAdd [.ex (eC (.int 1)), .ex (eCall (mkF 2 6 d__law_draw) [.nm 1, .nm 2])])
def t2 : DS := sIf (eOr (eOp fNe [.ex (eCall (mkF 3 4 d__law_asked) [.ex (eC (.int 1)), .nm 7, .ex (eC (.int 0))]), .ex (eOp fIx [.nm 3, .nm 7])]) (eOr (eOp fNe [.ex (eCall (mkF 3 4 d__law_asked) [.ex (eC (.int 2)), .nm 2, .nm 5]), .ex (eOp fLen [.ex (eLc (iAny (eVar 3)) (.nm 8) (eOp fEq [.ex (eOp fIx [.nm 8, .ex (eC (.int 1))]), .nm 5]) (eVar 8) [8])])]) (eNot (eOp fTru [.ex (eCall (mkF 1 1 d__law_int) [.ex (eCall (mkF 2 2 d_sung_of) [.nm 2, .nm 5])])])))) (sRet (eC (.bl false))) (sNil)
def t3 : DS := sAsg 9 (eLc (iRange2 (eVar 7) (eOp fLen [.nm 3])) (.nm 10) (eOp fEq [.ex (eOp fIx [.ex (eOp fIx [.nm 3, .nm 10]), .ex (eC (.int 1))]), .nm 5]) (eVar 10) [10])
def t4 : DS := sIf (eOr (eAnd (eOp fNe [.nm 9, .ex (eSeq mkLst [])]) (eOp fNe [.ex (eCall (mkF 3 4 d__law_asked) [.ex (eC (.int 3)), .nm 5, .nm 7]), .ex (eOp fIx [.nm 9, .ex (eC (.int 0))])])) (eNot (eOp fTru [.ex (eCall (mkF 1 1 d__law_int) [.ex (eCall (mkF 2 4 d_next_line_of) [.nm 5, .nm 7])])]))) (sRet (eC (.bl false))) (sNil)
def w0 : DS := sAsg 1 (eCall (mkF 1 3 d__law_open) [.nm 0])
def w1 : DS := sParN [2, 3] [eOp fAdd [.ex (eC (.int 1)), .ex (eCall (mkF 2 6 d__law_draw) [.nm 1, .ex (eC (.int 25))])], eSeq mkLst []]
def w2 : DS := sFor (iRange2 (eC (.int 1)) (eOp fAdd [.nm 2, .ex (eC (.int 1))])) (.nm 4) (sFor (iRange1 (eVar 4)) (.nm 5) (sExpr (eMut mAppend 3 [eSeq mkTup [eVar 4, eOp fSub [.nm 4, .nm 5]]])))
def w3 : DS := sIf (eOr (eOp fNe [.ex (eCall (mkF 3 4 d__law_asked) [.ex (eC (.int 0)), .nm 2, .ex (eC (.int 0))]), .ex (eOp fLen [.nm 3])]) (eOr (eNot (eOp fTru [.ex (eCall (mkF 1 1 d__law_int) [.ex (eCall (mkF 1 1 d_lines_sung) [.nm 2])])])) (eOp fNe [.ex (eCall (mkF 1 1 d_lines_sung) [.ex (eC (.int 0))]), .ex (eC (.int 0))]))) (sRet (eC (.bl false))) (sNil)
def w4 : DS := sFor (iRange1 (eC (.int 5))) (.nm 6) (sSeq t0 (sSeq t1 (sSeq t2 (sSeq t3 t4))))
def w5 : DS := sIf (eOp fNe [.ex (eCall (mkF 3 4 d__law_asked) [.ex (eC (.int 2)), .nm 2, .ex (eOp fAdd [.ex (eOp fAdd [.nm 2, .ex (eC (.int 1))]), .ex (eCall (mkF 2 6 d__law_draw) [.nm 1, .ex (eOp fPow [.ex (eC (.int 10)), .ex (eC (.int 6))])])])]), .ex (eC (.int 0))]) (sRet (eC (.bl false))) (sNil)
def w6 : DS := sAsg 11 (eOp fAdd [.ex (eOp fPow [.ex (eC (.int 10)), .ex (eC (.int 20))]), .ex (eCall (mkF 2 6 d__law_draw) [.nm 1, .ex (eOp fPow [.ex (eC (.int 10)), .ex (eC (.int 9))])])])
def w7 : DS := sAsg 12 (eOp fFdiv [.ex (eOp fMul [.nm 11, .ex (eOp fSub [.nm 11, .ex (eC (.int 1))])]), .ex (eC (.int 2))])
def w8 : DS := sAsg 5 (eOp fIx [.ex (eSeq mkLst [eC (.int 1), eVar 11, eOp fAdd [.ex (eC (.int 1)), .ex (eCall (mkF 2 6 d__law_draw) [.nm 1, .ex (eOp fPow [.ex (eC (.int 10)), .ex (eC (.int 9))])])], eOp fSub [.nm 11, .ex (eCall (mkF 2 6 d__law_draw) [.nm 1, .ex (eOp fPow [.ex (eC (.int 10)), .ex (eC (.int 6))])])]]), .ex (eCall (mkF 2 6 d__law_draw) [.nm 1, .ex (eC (.int 4))])])
def w9 : DS := sAsg 7 (eOp fSub [.ex (eOp fAdd [.nm 12, .nm 11]), .nm 5])
def w10 : DS := sIf (eOr (eOp fNe [.ex (eOp fSub [.ex (eCall (mkF 1 1 d_lines_sung) [.nm 11]), .ex (eCall (mkF 1 1 d_lines_sung) [.ex (eOp fSub [.nm 11, .ex (eC (.int 1))])])]), .nm 11]) (eOr (eOp fNe [.ex (eCall (mkF 1 1 d_lines_sung) [.ex (eOp fSub [.nm 11, .ex (eC (.int 1))])]), .nm 12]) (eOr (eOp fNe [.ex (eCall (mkF 1 2 d_thing_at) [.nm 7]), .ex (eSeq mkTup [eVar 11, eVar 5])]) (eOr (eOp fNe [.ex (eCall (mkF 1 2 d_thing_at) [.nm 12]), .ex (eSeq mkTup [eVar 11, eVar 11])]) (eOp fNe [.ex (eCall (mkF 1 2 d_thing_at) [.ex (eOp fSub [.nm 12, .ex (eC (.int 1))])]), .ex (eSeq mkTup [eOp fSub [.nm 11, .ex (eC (.int 1))], eC (.int 1)])]))))) (sRet (eC (.bl false))) (sNil)
def w11 : DS := sIf (eOr (eOp fNe [.ex (eCall (mkF 2 2 d_sung_of) [.nm 11, .nm 5]), .ex (eOp fAdd [.ex (eOp fSub [.nm 11, .nm 5]), .ex (eC (.int 1))])]) (eOr (eOp fNe [.ex (eCall (mkF 2 4 d_next_line_of) [.nm 5, .nm 7]), .nm 7]) (eOp fNe [.ex (eCall (mkF 2 4 d_next_line_of) [.nm 5, .ex (eOp fAdd [.nm 7, .ex (eC (.int 1))])]), .ex (eOp fSub [.ex (eOp fAdd [.ex (eOp fAdd [.ex (eOp fAdd [.nm 12, .nm 11]), .nm 11]), .ex (eC (.int 1))]), .nm 5])]))) (sRet (eC (.bl false))) (sNil)
def w12 : DS := sIf (eOp fNe [.ex (eCall (mkF 2 4 d_next_line_of) [.ex (eOp fAdd [.nm 11, .ex (eC (.int 5))]), .ex (eCall (mkF 2 6 d__law_draw) [.nm 1, .ex (eOp fPow [.ex (eC (.int 10)), .ex (eC (.int 9))])])]), .ex (eOp fFdiv [.ex (eOp fMul [.ex (eOp fAdd [.nm 11, .ex (eC (.int 5))]), .ex (eOp fAdd [.nm 11, .ex (eC (.int 4))])]), .ex (eC (.int 2))])]) (sRet (eC (.bl false))) (sNil)
def w13 : DS := sAsg 13 (eSeq mkLst [eCall (mkF 3 4 d__law_asked) [.ex (eC (.int 0)), .ex (eOp fNeg [.ex (eC (.int 1))]), .ex (eC (.int 0))], eCall (mkF 3 4 d__law_asked) [.ex (eC (.int 1)), .ex (eOp fNeg [.ex (eC (.int 1))]), .ex (eC (.int 0))], eCall (mkF 3 4 d__law_asked) [.ex (eC (.int 2)), .ex (eOp fNeg [.ex (eC (.int 1))]), .ex (eC (.int 1))], eCall (mkF 3 4 d__law_asked) [.ex (eC (.int 2)), .ex (eC (.int 1)), .ex (eC (.int 0))], eCall (mkF 3 4 d__law_asked) [.ex (eC (.int 3)), .ex (eC (.int 0)), .ex (eC (.int 0))], eCall (mkF 3 4 d__law_asked) [.ex (eC (.int 3)), .ex (eC (.int 1)), .ex (eOp fNeg [.ex (eC (.int 1))])]])
def w14 : DS := sRet (eOp fEq [.nm 13, .ex (eOp fMul [.ex (eSeq mkLst [eC (.str "OutOfRange")]), .ex (eC (.int 6))])])
theorem d_law_eq : d_law = sSeq w0 (sSeq w1 (sSeq w2 (sSeq w3 (sSeq w4 (sSeq w5 (sSeq w6 (sSeq w7 (sSeq w8 (sSeq w9 (sSeq w10 (sSeq w11 (sSeq w12 (sSeq w13 (w14)))))))))))))) := rfl
theorem ix_t1 (a b : Int) : fIx [.tup [.int a, .int b], .int 1] = some (vl (.int b)) := rfl
theorem ix_c0 (a : D) (xs : List D) : fIx [.lst (a :: xs), .int 0] = some (vl a) := by
  have e : L2.atI (a :: xs) 0 = some a := L2.atI_nat (j := 0) rfl
  exact t_ixl e
theorem pick5 {L a b c : Int} {i : Int} (hL : 0 < L) (ha : 0 ≤ a ∧ a < L) (hb : 0 ≤ b ∧ b < L) (hc : 0 ≤ c ∧ c < L) (h0 : 0 ≤ i) (h1 : i < 5) :
    ∃ l : Int, 0 ≤ l ∧ l < L ∧ fIx [.lst [.int 0, .int (L - 1), .int a, .int b, .int c], .int i] = some (vl (.int l)) := by
  have : i = 0 ∨ i = 1 ∨ i = 2 ∨ i = 3 ∨ i = 4 := by omega
  rcases this with rfl | rfl | rfl | rfl | rfl
  · exact ⟨0, by omega, hL, rfl⟩
  · exact ⟨L - 1, by omega, by omega, rfl⟩
  · exact ⟨a, ha.1, ha.2, rfl⟩
  · exact ⟨b, hb.1, hb.2, rfl⟩
  · exact ⟨c, hc.1, hc.2, rfl⟩
/-- is it the thing t -/
def isT2 (t : Int) : D → Bool
  | .tup [_, .int y] => y == t
  | _ => false
def selT (S : List D) (t : Int) : D → Bool
  | .int k => match atI S k with
    | some x => isT2 t x
    | none => false
  | _ => false
theorem cnt_S (n : Nat) (t : Int) (h1 : 1 ≤ t) (h2 : t ≤ n) : ((((sg n).map tp).filter (isT2 t)).length : Int) = n - t + 1 := by
  rw [List.filter_map, List.length_map]
  have := cnt_sg t h1 n
  rw [if_pos h2] at this
  exact this
theorem S_at {n : Nat} {k : Int} (h0 : 0 ≤ k) (h1 : k < ((sg n).map tp).length) : ∃ v s : Int, 1 ≤ s ∧ s ≤ v ∧ v ≤ n ∧ k = LL (v - 1) + (v - s) ∧ atI ((sg n).map tp) k = some (.tup [.int v, .int s]) := by
  obtain ⟨i, rfl⟩ := Int.eq_ofNat_of_zero_le h0
  rw [List.length_map] at h1
  have hi : i < (sg n).length := by omega
  cases e : (sg n)[i] with
  | mk v s =>
    have eg : (sg n)[i]? = some (v, s) := by rw [List.getElem?_eq_getElem hi, e]
    obtain ⟨a1, a2, a3, a4⟩ := sg_at n i v s eg
    exact ⟨v, s, a1, a2, a3, a4, L2.atI_nat (by rw [List.getElem?_map, eg]; rfl)⟩
/-- the first line from line on -/
theorem later_head {n : Nat} {line t v s : Int} (ht : 1 ≤ t) (hs : 1 ≤ s) (hsv : s ≤ v) (e : line = LL (v - 1) + (v - s)) (h0 : 0 ≤ line) {h : D} {r : List D}
    (hf : (rngD line (((sg n).map tp).length - line).toNat).filter (selT ((sg n).map tp) t) = h :: r) : h = .int (NX v t line) := by
  generalize hL : (((sg n).map tp).length : Int) = L at hf
  have hh : ((rngD line (L - line).toNat).filter (selT ((sg n).map tp) t)).head? = some h := by rw [hf]; rfl
  rw [List.head?_filter, List.find?_eq_some_iff_getElem] at hh
  obtain ⟨ph, i, hi, ei, hno⟩ := hh
  have hi' : i < (L - line).toNat := by
    have := hi
    unfold rngD at this
    rw [List.length_map, List.length_range] at this
    exact this
  have at_ : ∀ j : Nat, ∀ hj : j < (rngD line (L - line).toNat).length, (rngD line (L - line).toNat)[j] = .int (line + (j : Int)) := fun j hj => by simp only [rngD, List.getElem_map, List.getElem_range]
  rw [at_ i hi] at ei
  subst ei
  -- what stands at a line that is picked
  have pk : ∀ k : Int, line ≤ k → k < L → (selT ((sg n).map tp) t (.int k) = true ↔ ∃ w, t ≤ w ∧ k = kw w t) := fun k hk hk2 => by
    obtain ⟨w, z, a1, a2, a3, a4, a5⟩ := S_at (n := n) (k := k) (by omega) (by omega)
    have es : selT ((sg n).map tp) t (.int k) = (z == t) := by
      show (match atI ((sg n).map tp) k with | some x => isT2 t x | none => false) = _
      rw [a5]
      rfl
    rw [es]
    constructor
    · intro q
      have q : z = t := by simpa using q
      subst q
      exact ⟨w, a2, a4⟩
    · rintro ⟨w2, b1, b2⟩
      have : z = t := by
        unfold kw at b2
        have : w = w2 := by
          have key : ∀ {p q x y : Int}, 1 ≤ x → x ≤ p → 1 ≤ y → y ≤ q → p < q → LL (p - 1) + (p - x) < LL (q - 1) + (q - y) := fun {p q x y} c1 c2 c3 c4 c5 => by
            have m1 := LL_mono (v := p) (w := q - 1) (by omega) (by omega)
            have m2 := LL_step p
            omega
          rcases Int.lt_trichotomy w w2 with c | c | c
          · have := key a1 a2 ht b1 c; omega
          · exact c
          · have := key ht b1 a1 a2 c; omega
        subst this
        omega
      simpa using this
  obtain ⟨w, b1, b2⟩ := (pk (line + i) (by omega) (by omega)).mp ph
  have le1 := NX_le hs hsv ht e b1 (by omega)
  obtain ⟨ge1, w0, b3, b4⟩ := NX_ge hs hsv ht e
  -- no one ahead
  by_cases q : NX v t line = line + i
  · rw [q]
  · have hlt : NX v t line < line + i := by omega
    have := hno (NX v t line - line).toNat (by omega)
    rw [at_] at this
    have e2 : line + (((NX v t line - line).toNat : Nat) : Int) = NX v t line := by omega
    rw [e2] at this
    have p2 := (pk (NX v t line) ge1 (by omega)).mpr ⟨w0, b3, b4⟩
    rw [p2] at this
    simp at this
end K56

set_option Elab.async false
set_option linter.all false
set_option maxRecDepth 100000
set_option maxHeartbeats 4000000
namespace K56
open PySem PySem.Spec PyProof.Rows L2 Sm
theorem z1 : 1 ≤ SZ := by decide
theorem z2 : 2 ≤ SZ := by decide
theorem z3 : 3 ≤ SZ := by decide
theorem z4 : 4 ≤ SZ := by decide
theorem z5 : 5 ≤ SZ := by decide
theorem z6 : 6 ≤ SZ := by decide
theorem z0 : 0 ≤ SZ := by decide
section
variable {s c1 c2 c3 c4 c5 c6 c7 c8 c9 c10 c11 c12 c13 : Cell} {S : List D} {L V i l t v w r1 r2 r3 r4 : Int} {d0 d1 d2 d3 : D} {o : Bool}
theorem t0_ok (h1 : mkF 2 6 d__law_draw [ow d0, vl (.int L)] = .ok (vl (.int r1)) [ow d1, .emp]) (h2 : mkF 2 6 d__law_draw [ow d1, vl (.int L)] = .ok (vl (.int r2)) [ow d2, .emp]) (h3 : mkF 2 6 d__law_draw [ow d2, vl (.int L)] = .ok (vl (.int r3)) [ow d3, .emp])
    (hp : fIx [.lst [.int 0, .int (L - 1), .int r1, .int r2, .int r3], .int i] = some (vl (.int l))) (hL : (S.length : Int) = L) :
    t0 [s, ow d0, c2, .c o none (.lst S), c4, c5, vl (.int i), c7, c8, c9, c10, c11, c12, c13] = .nx [s, ow d3, c2, .c o none (.lst S), c4, c5, vl (.int i), vl (.int l), c8, c9, c10, c11, c12, c13] := by
  simp only [t0, h1, h2, h3, hp, hL, p_sSeq, p_sIf, p_sExpr, p_sRet, p_sRetV, p_sRetN, p_sNil, p_sPass, p_sBrk, p_sCnt, p_sAsg, p_sRaise, p_sFor, p_sTry, p_sSetIx, p_sUnp, p_sParN, p_sPar2, p_evD, p_eOp, p_eC, p_eVar, p_eSeq, p_eAnd, p_eOr, p_eNot, p_eIf, p_eChain, p_eCall, p_eLc, p_dYes, p_iAny, p_iLst, p_iRange1, p_iRange2, p_eMut, evO, lookO, allD, takeA, giveB, startC, endC, un_c, un_e, setAll, asgV, setCs, mkTup, mkLst, t_lt, t_fd, t_md, t_tb, t_ti, t_l1, t_l2, t_l3, t_mx, t_mn, t_ab, t_in, t_ng, t_add, t_sub, t_mul, t_pw, t_it1, t_it2, t_it3, mAppend, lLe, lLt, List.getElem?_cons_zero, List.getElem?_cons_succ, List.set_cons_zero, List.set_cons_succ, List.length_cons, List.length_nil, List.map_cons, List.map_nil, List.cons_append, List.nil_append, List.append_nil, List.replicate_zero, List.replicate_succ, Nat.reduceAdd, Nat.reduceSub, Nat.sub_self, Nat.add_one_sub_one, if_true, if_false, if_pos, Bool.not_true, Bool.not_false, Bool.true_and, Bool.and_true, Bool.false_and, Bool.and_false, Nat.reduceEqDiff, Bool.false_eq_true, reduceCtorEq, fi_ii, fi_ib, Nat.zero_add, decide_true, decide_false, eq_self, z5]
theorem t1_ok (h1 : mkF 2 6 d__law_draw [ow d0, vl (.int V)] = .ok (vl (.int r1)) [ow d1, .emp]) :
    t1 [s, ow d0, vl (.int V), c3, c4, c5, c6, c7, c8, c9, c10, c11, c12, c13] = .nx [s, ow d1, vl (.int V), c3, c4, vl (.int (1 + r1)), c6, c7, c8, c9, c10, c11, c12, c13] := by
  simp only [t1, h1, p_sSeq, p_sIf, p_sExpr, p_sRet, p_sRetV, p_sRetN, p_sNil, p_sPass, p_sBrk, p_sCnt, p_sAsg, p_sRaise, p_sFor, p_sTry, p_sSetIx, p_sUnp, p_sParN, p_sPar2, p_evD, p_eOp, p_eC, p_eVar, p_eSeq, p_eAnd, p_eOr, p_eNot, p_eIf, p_eChain, p_eCall, p_eLc, p_dYes, p_iAny, p_iLst, p_iRange1, p_iRange2, p_eMut, evO, lookO, allD, takeA, giveB, startC, endC, un_c, un_e, setAll, asgV, setCs, mkTup, mkLst, t_lt, t_fd, t_md, t_tb, t_ti, t_l1, t_l2, t_l3, t_mx, t_mn, t_ab, t_in, t_ng, t_add, t_sub, t_mul, t_pw, t_it1, t_it2, t_it3, mAppend, lLe, lLt, List.getElem?_cons_zero, List.getElem?_cons_succ, List.set_cons_zero, List.set_cons_succ, List.length_cons, List.length_nil, List.map_cons, List.map_nil, List.cons_append, List.nil_append, List.append_nil, List.replicate_zero, List.replicate_succ, Nat.reduceAdd, Nat.reduceSub, Nat.sub_self, Nat.add_one_sub_one, if_true, if_false, if_pos, Bool.not_true, Bool.not_false, Bool.true_and, Bool.and_true, Bool.false_and, Bool.and_false, Nat.reduceEqDiff, Bool.false_eq_true, reduceCtorEq, fi_ii, fi_ib, Nat.zero_add, decide_true, decide_false, eq_self]
theorem isT2_tp (t a b : Int) : isT2 t (.tup [.int a, .int b]) = (b == t) := rfl
theorem t2_ok (h1 : mkF 3 4 d__law_asked [vl (.int 1), vl (.int l), vl (.int 0)] = .ok (vl (.tup [.int v, .int w])) [.emp, .emp, .emp]) (h2 : atI S l = some (.tup [.int v, .int w]))
    (h3 : mkF 3 4 d__law_asked [vl (.int 2), vl (.int V), vl (.int t)] = .ok (vl (.int r1)) [.emp, .emp, .emp]) (hS : ∀ d ∈ S, ∃ a b : Int, d = .tup [.int a, .int b]) (h4 : ((S.filter (isT2 t)).length : Int) = r1) (hz : S.length ≤ SZ)
    (h5 : mkF 2 2 d_sung_of [vl (.int V), vl (.int t)] = .ok (vl (.int r2)) [.emp, .emp]) :
    t2 [s, c1, vl (.int V), .c o none (.lst S), c4, vl (.int t), c6, vl (.int l), c8, c9, c10, c11, c12, c13] = .nx [s, c1, vl (.int V), vl (.lst S), c4, vl (.int t), c6, vl (.int l), .emp, c9, c10, c11, c12, c13] := by
  have lc := lcL_pick (p := isT2 t) (c := eOp fEq [.ex (eOp fIx [.nm 8, .ex (eC (.int 1))]), .nm 5]) (e := eVar 8) (i := 8) (σ := [s, c1, vl (.int V), vl (.lst S), c4, vl (.int t), c6, vl (.int l), c8, c9, c10, c11, c12, c13])
    (fun d => ∃ a b : Int, d = .tup [.int a, .int b]) (fun d ⟨a, b, hd⟩ => by subst hd; simp only [wipeE, p_sSeq, p_sIf, p_sExpr, p_sRet, p_sRetV, p_sRetN, p_sNil, p_sPass, p_sBrk, p_sCnt, p_sAsg, p_sRaise, p_sFor, p_sTry, p_sSetIx, p_sUnp, p_sParN, p_sPar2, p_evD, p_eOp, p_eC, p_eVar, p_eSeq, p_eAnd, p_eOr, p_eNot, p_eIf, p_eChain, p_eCall, p_eLc, p_dYes, p_iAny, p_iLst, p_iRange1, p_iRange2, p_eMut, evO, lookO, allD, takeA, giveB, startC, endC, un_c, un_e, setAll, asgV, setCs, mkTup, mkLst, t_lt, t_fd, t_md, t_tb, t_ti, t_l1, t_l2, t_l3, t_mx, t_mn, t_ab, t_in, t_ng, t_add, t_sub, t_mul, t_pw, t_it1, t_it2, t_it3, mAppend, lLe, lLt, List.getElem?_cons_zero, List.getElem?_cons_succ, List.set_cons_zero, List.set_cons_succ, List.length_cons, List.length_nil, List.map_cons, List.map_nil, List.cons_append, List.nil_append, List.append_nil, List.replicate_zero, List.replicate_succ, Nat.reduceAdd, Nat.reduceSub, Nat.sub_self, Nat.add_one_sub_one, if_true, if_false, if_pos, Bool.not_true, Bool.not_false, Bool.true_and, Bool.and_true, Bool.false_and, Bool.and_false, Nat.reduceEqDiff, Bool.false_eq_true, reduceCtorEq, fi_ii, fi_ib, Nat.zero_add, decide_true, decide_false, eq_self, ix_t1, t_eq, isT2_tp]) (fun d ⟨a, b, hd⟩ => by subst hd; simp only [wipeE, p_sSeq, p_sIf, p_sExpr, p_sRet, p_sRetV, p_sRetN, p_sNil, p_sPass, p_sBrk, p_sCnt, p_sAsg, p_sRaise, p_sFor, p_sTry, p_sSetIx, p_sUnp, p_sParN, p_sPar2, p_evD, p_eOp, p_eC, p_eVar, p_eSeq, p_eAnd, p_eOr, p_eNot, p_eIf, p_eChain, p_eCall, p_eLc, p_dYes, p_iAny, p_iLst, p_iRange1, p_iRange2, p_eMut, evO, lookO, allD, takeA, giveB, startC, endC, un_c, un_e, setAll, asgV, setCs, mkTup, mkLst, t_lt, t_fd, t_md, t_tb, t_ti, t_l1, t_l2, t_l3, t_mx, t_mn, t_ab, t_in, t_ng, t_add, t_sub, t_mul, t_pw, t_it1, t_it2, t_it3, mAppend, lLe, lLt, List.getElem?_cons_zero, List.getElem?_cons_succ, List.set_cons_zero, List.set_cons_succ, List.length_cons, List.length_nil, List.map_cons, List.map_nil, List.cons_append, List.nil_append, List.append_nil, List.replicate_zero, List.replicate_succ, Nat.reduceAdd, Nat.reduceSub, Nat.sub_self, Nat.add_one_sub_one, if_true, if_false, if_pos, Bool.not_true, Bool.not_false, Bool.true_and, Bool.and_true, Bool.false_and, Bool.and_false, Nat.reduceEqDiff, Bool.false_eq_true, reduceCtorEq, fi_ii, fi_ib, Nat.zero_add, decide_true, decide_false, eq_self]) S [] _ hS rfl (by rw [List.length_nil, Nat.zero_add]; exact hz)
  simp only [wipeE, p_sSeq, p_sIf, p_sExpr, p_sRet, p_sRetV, p_sRetN, p_sNil, p_sPass, p_sBrk, p_sCnt, p_sAsg, p_sRaise, p_sFor, p_sTry, p_sSetIx, p_sUnp, p_sParN, p_sPar2, p_evD, p_eOp, p_eC, p_eVar, p_eSeq, p_eAnd, p_eOr, p_eNot, p_eIf, p_eChain, p_eCall, p_eLc, p_dYes, p_iAny, p_iLst, p_iRange1, p_iRange2, p_eMut, evO, lookO, allD, takeA, giveB, startC, endC, un_c, un_e, setAll, asgV, setCs, mkTup, mkLst, t_lt, t_fd, t_md, t_tb, t_ti, t_l1, t_l2, t_l3, t_mx, t_mn, t_ab, t_in, t_ng, t_add, t_sub, t_mul, t_pw, t_it1, t_it2, t_it3, mAppend, lLe, lLt, List.getElem?_cons_zero, List.getElem?_cons_succ, List.set_cons_zero, List.set_cons_succ, List.length_cons, List.length_nil, List.map_cons, List.map_nil, List.cons_append, List.nil_append, List.append_nil, List.replicate_zero, List.replicate_succ, Nat.reduceAdd, Nat.reduceSub, Nat.sub_self, Nat.add_one_sub_one, if_true, if_false, if_pos, Bool.not_true, Bool.not_false, Bool.true_and, Bool.and_true, Bool.false_and, Bool.and_false, Nat.reduceEqDiff, Bool.false_eq_true, reduceCtorEq, fi_ii, fi_ib, Nat.zero_add, decide_true, decide_false, eq_self] at lc
  cases o <;> simp only [t2, h1, t_ixl h2, t_net, h3, p_sSeq, p_sIf, p_sExpr, p_sRet, p_sRetV, p_sRetN, p_sNil, p_sPass, p_sBrk, p_sCnt, p_sAsg, p_sRaise, p_sFor, p_sTry, p_sSetIx, p_sUnp, p_sParN, p_sPar2, p_evD, p_eOp, p_eC, p_eVar, p_eSeq, p_eAnd, p_eOr, p_eNot, p_eIf, p_eChain, p_eCall, p_eLc, p_dYes, p_iAny, p_iLst, p_iRange1, p_iRange2, p_eMut, evO, lookO, allD, takeA, giveB, startC, endC, un_c, un_e, setAll, asgV, setCs, mkTup, mkLst, t_lt, t_fd, t_md, t_tb, t_ti, t_l1, t_l2, t_l3, t_mx, t_mn, t_ab, t_in, t_ng, t_add, t_sub, t_mul, t_pw, t_it1, t_it2, t_it3, mAppend, lLe, lLt, List.getElem?_cons_zero, List.getElem?_cons_succ, List.set_cons_zero, List.set_cons_succ, List.length_cons, List.length_nil, List.map_cons, List.map_nil, List.cons_append, List.nil_append, List.append_nil, List.replicate_zero, List.replicate_succ, Nat.reduceAdd, Nat.reduceSub, Nat.sub_self, Nat.add_one_sub_one, if_true, if_false, if_pos, Bool.not_true, Bool.not_false, Bool.true_and, Bool.and_true, Bool.false_and, Bool.and_false, Nat.reduceEqDiff, Bool.false_eq_true, reduceCtorEq, fi_ii, fi_ib, Nat.zero_add, decide_true, decide_false, eq_self, lc, h4, t_ne, h5, f_int_i, wipeE, beq_self_eq_true]
theorem selT_int (S : List D) (t k : Int) {a b : Int} (h : atI S k = some (.tup [.int a, .int b])) : selT S t (.int k) = (b == t) := by
  show (match atI S k with | some x => isT2 t x | none => false) = _
  rw [h]
  rfl
theorem t3_ok (hL : (S.length : Int) = L) (hl0 : 0 ≤ l) (hlL : l ≤ L) (hLz : L ≤ 400) (hS : ∀ k : Int, 0 ≤ k → k < L → ∃ a b : Int, atI S k = some (.tup [.int a, .int b])) :
    t3 [s, c1, c2, vl (.lst S), c4, vl (.int t), c6, vl (.int l), c8, c9, c10, c11, c12, c13] = .nx [s, c1, c2, vl (.lst S), c4, vl (.int t), c6, vl (.int l), c8, ow (.lst ((rngD l (L - l).toNat).filter (selT S t))), .emp, c11, c12, c13] := by
  have r1 : rngOk l = true := by unfold rngOk; rw [decide_eq_true (by omega), decide_eq_true (by omega)]; rfl
  have r2 : rngOk L = true := by unfold rngOk; rw [decide_eq_true (by omega), decide_eq_true (by omega)]; rfl
  have hz : 400 ≤ SZ := by decide
  generalize hds : rngD l (L - l).toNat = ds
  have hlen : ds.length ≤ 400 := by rw [← hds]; unfold rngD; rw [List.length_map, List.length_range]; omega
  have hP : ∀ d ∈ ds, ∃ k a b : Int, d = .int k ∧ atI S k = some (.tup [.int a, .int b]) := fun d hd => by
    rw [← hds] at hd
    unfold rngD at hd
    obtain ⟨j, hj, rfl⟩ := List.mem_map.mp hd
    have hj := List.mem_range.mp hj
    obtain ⟨a, b, e⟩ := hS (l + (j : Int)) (by omega) (by omega)
    exact ⟨_, a, b, rfl, e⟩
  have lc := lcL_pick (p := selT S t) (c := eOp fEq [.ex (eOp fIx [.ex (eOp fIx [.nm 3, .nm 10]), .ex (eC (.int 1))]), .nm 5]) (e := eVar 10) (i := 10) (σ := [s, c1, c2, vl (.lst S), c4, vl (.int t), c6, vl (.int l), c8, c9, c10, c11, c12, c13])
    (fun d => ∃ k a b : Int, d = .int k ∧ atI S k = some (.tup [.int a, .int b])) (fun d ⟨k, a, b, hd, e⟩ => by subst hd; simp only [wipeE, p_sSeq, p_sIf, p_sExpr, p_sRet, p_sRetV, p_sRetN, p_sNil, p_sPass, p_sBrk, p_sCnt, p_sAsg, p_sRaise, p_sFor, p_sTry, p_sSetIx, p_sUnp, p_sParN, p_sPar2, p_evD, p_eOp, p_eC, p_eVar, p_eSeq, p_eAnd, p_eOr, p_eNot, p_eIf, p_eChain, p_eCall, p_eLc, p_dYes, p_iAny, p_iLst, p_iRange1, p_iRange2, p_eMut, evO, lookO, allD, takeA, giveB, startC, endC, un_c, un_e, setAll, asgV, setCs, mkTup, mkLst, t_lt, t_fd, t_md, t_tb, t_ti, t_l1, t_l2, t_l3, t_mx, t_mn, t_ab, t_in, t_ng, t_add, t_sub, t_mul, t_pw, t_it1, t_it2, t_it3, mAppend, lLe, lLt, List.getElem?_cons_zero, List.getElem?_cons_succ, List.set_cons_zero, List.set_cons_succ, List.length_cons, List.length_nil, List.map_cons, List.map_nil, List.cons_append, List.nil_append, List.append_nil, List.replicate_zero, List.replicate_succ, Nat.reduceAdd, Nat.reduceSub, Nat.sub_self, Nat.add_one_sub_one, if_true, if_false, if_pos, Bool.not_true, Bool.not_false, Bool.true_and, Bool.and_true, Bool.false_and, Bool.and_false, Nat.reduceEqDiff, Bool.false_eq_true, reduceCtorEq, fi_ii, fi_ib, Nat.zero_add, decide_true, decide_false, eq_self, t_ixl e, ix_t1, t_eq, selT_int S t k e]) (fun d ⟨k, a, b, hd, e⟩ => by subst hd; simp only [wipeE, p_sSeq, p_sIf, p_sExpr, p_sRet, p_sRetV, p_sRetN, p_sNil, p_sPass, p_sBrk, p_sCnt, p_sAsg, p_sRaise, p_sFor, p_sTry, p_sSetIx, p_sUnp, p_sParN, p_sPar2, p_evD, p_eOp, p_eC, p_eVar, p_eSeq, p_eAnd, p_eOr, p_eNot, p_eIf, p_eChain, p_eCall, p_eLc, p_dYes, p_iAny, p_iLst, p_iRange1, p_iRange2, p_eMut, evO, lookO, allD, takeA, giveB, startC, endC, un_c, un_e, setAll, asgV, setCs, mkTup, mkLst, t_lt, t_fd, t_md, t_tb, t_ti, t_l1, t_l2, t_l3, t_mx, t_mn, t_ab, t_in, t_ng, t_add, t_sub, t_mul, t_pw, t_it1, t_it2, t_it3, mAppend, lLe, lLt, List.getElem?_cons_zero, List.getElem?_cons_succ, List.set_cons_zero, List.set_cons_succ, List.length_cons, List.length_nil, List.map_cons, List.map_nil, List.cons_append, List.nil_append, List.append_nil, List.replicate_zero, List.replicate_succ, Nat.reduceAdd, Nat.reduceSub, Nat.sub_self, Nat.add_one_sub_one, if_true, if_false, if_pos, Bool.not_true, Bool.not_false, Bool.true_and, Bool.and_true, Bool.false_and, Bool.and_false, Nat.reduceEqDiff, Bool.false_eq_true, reduceCtorEq, fi_ii, fi_ib, Nat.zero_add, decide_true, decide_false, eq_self]) ds [] _ hP rfl (by rw [List.length_nil, Nat.zero_add]; omega)
  simp only [wipeE, p_sSeq, p_sIf, p_sExpr, p_sRet, p_sRetV, p_sRetN, p_sNil, p_sPass, p_sBrk, p_sCnt, p_sAsg, p_sRaise, p_sFor, p_sTry, p_sSetIx, p_sUnp, p_sParN, p_sPar2, p_evD, p_eOp, p_eC, p_eVar, p_eSeq, p_eAnd, p_eOr, p_eNot, p_eIf, p_eChain, p_eCall, p_eLc, p_dYes, p_iAny, p_iLst, p_iRange1, p_iRange2, p_eMut, evO, lookO, allD, takeA, giveB, startC, endC, un_c, un_e, setAll, asgV, setCs, mkTup, mkLst, t_lt, t_fd, t_md, t_tb, t_ti, t_l1, t_l2, t_l3, t_mx, t_mn, t_ab, t_in, t_ng, t_add, t_sub, t_mul, t_pw, t_it1, t_it2, t_it3, mAppend, lLe, lLt, List.getElem?_cons_zero, List.getElem?_cons_succ, List.set_cons_zero, List.set_cons_succ, List.length_cons, List.length_nil, List.map_cons, List.map_nil, List.cons_append, List.nil_append, List.append_nil, List.replicate_zero, List.replicate_succ, Nat.reduceAdd, Nat.reduceSub, Nat.sub_self, Nat.add_one_sub_one, if_true, if_false, if_pos, Bool.not_true, Bool.not_false, Bool.true_and, Bool.and_true, Bool.false_and, Bool.and_false, Nat.reduceEqDiff, Bool.false_eq_true, reduceCtorEq, fi_ii, fi_ib, Nat.zero_add, decide_true, decide_false, eq_self] at lc
  simp only [t3, p_sSeq, p_sIf, p_sExpr, p_sRet, p_sRetV, p_sRetN, p_sNil, p_sPass, p_sBrk, p_sCnt, p_sAsg, p_sRaise, p_sFor, p_sTry, p_sSetIx, p_sUnp, p_sParN, p_sPar2, p_evD, p_eOp, p_eC, p_eVar, p_eSeq, p_eAnd, p_eOr, p_eNot, p_eIf, p_eChain, p_eCall, p_eLc, p_dYes, p_iAny, p_iLst, p_iRange1, p_iRange2, p_eMut, evO, lookO, allD, takeA, giveB, startC, endC, un_c, un_e, setAll, asgV, setCs, mkTup, mkLst, t_lt, t_fd, t_md, t_tb, t_ti, t_l1, t_l2, t_l3, t_mx, t_mn, t_ab, t_in, t_ng, t_add, t_sub, t_mul, t_pw, t_it1, t_it2, t_it3, mAppend, lLe, lLt, List.getElem?_cons_zero, List.getElem?_cons_succ, List.set_cons_zero, List.set_cons_succ, List.length_cons, List.length_nil, List.map_cons, List.map_nil, List.cons_append, List.nil_append, List.append_nil, List.replicate_zero, List.replicate_succ, Nat.reduceAdd, Nat.reduceSub, Nat.sub_self, Nat.add_one_sub_one, if_true, if_false, if_pos, Bool.not_true, Bool.not_false, Bool.true_and, Bool.and_true, Bool.false_and, Bool.and_false, Nat.reduceEqDiff, Bool.false_eq_true, reduceCtorEq, fi_ii, fi_ib, Nat.zero_add, decide_true, decide_false, eq_self, hL, r1, r2, hds, lc, wipeE]
theorem plains_ints : ∀ (ds : List D), (∀ d ∈ ds, ∃ k : Int, d = .int k) → D.plains ds = true
  | [], _ => rfl
  | d :: ds, h => by
    obtain ⟨k, rfl⟩ := h d List.mem_cons_self
    simp only [D.plains, D.plain, plains_ints ds fun d hd => h d (List.mem_cons_of_mem _ hd), Bool.and_true]
theorem ne_nil {ds : List D} (h : D.plains ds = true) : fNe [.lst ds, .lst []] = some (vl (.bl (!ds.isEmpty))) := by
  have hk : eqOk (.lst ds) (.lst []) = true := by
    unfold eqOk
    have e1 : D.plain (.lst ds) = true := by rw [D.plain]; exact h
    have e2 : D.plain (.lst []) = true := by rw [D.plain, D.plains]
    have e3 : D.depth (.lst []) ≤ 64 := by rw [D.depth, D.depths]; decide
    rw [e1, e2, decide_eq_true (Nat.le_trans (Nat.min_le_right _ _) e3)]
    rfl
  show (if eqOk (.lst ds) (.lst []) then some (vl (.bl (!D.eqv (.lst ds) (.lst [])))) else none) = _
  rw [if_pos hk]
  cases ds with
  | nil => simp only [D.eqv, D.eqvs, List.isEmpty_nil]
  | cons d ds => simp only [D.eqv, D.eqvs, List.isEmpty_cons]
theorem t4_ok {F : List D} (hF : ∀ d ∈ F, ∃ k : Int, d = .int k) (h1 : mkF 3 4 d__law_asked [vl (.int 3), vl (.int t), vl (.int l)] = .ok (vl (.int r1)) [.emp, .emp, .emp]) (hh : ∀ h r, F = h :: r → h = .int r1)
    (h5 : mkF 2 4 d_next_line_of [vl (.int t), vl (.int l)] = .ok (vl (.int r2)) [.emp, .emp]) :
    t4 [s, c1, c2, c3, c4, vl (.int t), c6, vl (.int l), c8, ow (.lst F), c10, c11, c12, c13] = .nx [s, c1, c2, c3, c4, vl (.int t), c6, vl (.int l), c8, ow (.lst F), c10, c11, c12, c13] := by
  have hn := ne_nil (plains_ints F hF)
  cases F with
  | nil => simp only [t4, p_sSeq, p_sIf, p_sExpr, p_sRet, p_sRetV, p_sRetN, p_sNil, p_sPass, p_sBrk, p_sCnt, p_sAsg, p_sRaise, p_sFor, p_sTry, p_sSetIx, p_sUnp, p_sParN, p_sPar2, p_evD, p_eOp, p_eC, p_eVar, p_eSeq, p_eAnd, p_eOr, p_eNot, p_eIf, p_eChain, p_eCall, p_eLc, p_dYes, p_iAny, p_iLst, p_iRange1, p_iRange2, p_eMut, evO, lookO, allD, takeA, giveB, startC, endC, un_c, un_e, setAll, asgV, setCs, mkTup, mkLst, t_lt, t_fd, t_md, t_tb, t_ti, t_l1, t_l2, t_l3, t_mx, t_mn, t_ab, t_in, t_ng, t_add, t_sub, t_mul, t_pw, t_it1, t_it2, t_it3, mAppend, lLe, lLt, List.getElem?_cons_zero, List.getElem?_cons_succ, List.set_cons_zero, List.set_cons_succ, List.length_cons, List.length_nil, List.map_cons, List.map_nil, List.cons_append, List.nil_append, List.append_nil, List.replicate_zero, List.replicate_succ, Nat.reduceAdd, Nat.reduceSub, Nat.sub_self, Nat.add_one_sub_one, if_true, if_false, if_pos, Bool.not_true, Bool.not_false, Bool.true_and, Bool.and_true, Bool.false_and, Bool.and_false, Nat.reduceEqDiff, Bool.false_eq_true, reduceCtorEq, fi_ii, fi_ib, Nat.zero_add, decide_true, decide_false, eq_self, hn, z0, h5, f_int_i, List.isEmpty_nil]
  | cons h r =>
    have := hh h r rfl
    subst this
    simp only [t4, p_sSeq, p_sIf, p_sExpr, p_sRet, p_sRetV, p_sRetN, p_sNil, p_sPass, p_sBrk, p_sCnt, p_sAsg, p_sRaise, p_sFor, p_sTry, p_sSetIx, p_sUnp, p_sParN, p_sPar2, p_evD, p_eOp, p_eC, p_eVar, p_eSeq, p_eAnd, p_eOr, p_eNot, p_eIf, p_eChain, p_eCall, p_eLc, p_dYes, p_iAny, p_iLst, p_iRange1, p_iRange2, p_eMut, evO, lookO, allD, takeA, giveB, startC, endC, un_c, un_e, setAll, asgV, setCs, mkTup, mkLst, t_lt, t_fd, t_md, t_tb, t_ti, t_l1, t_l2, t_l3, t_mx, t_mn, t_ab, t_in, t_ng, t_add, t_sub, t_mul, t_pw, t_it1, t_it2, t_it3, mAppend, lLe, lLt, List.getElem?_cons_zero, List.getElem?_cons_succ, List.set_cons_zero, List.set_cons_succ, List.length_cons, List.length_nil, List.map_cons, List.map_nil, List.cons_append, List.nil_append, List.append_nil, List.replicate_zero, List.replicate_succ, Nat.reduceAdd, Nat.reduceSub, Nat.sub_self, Nat.add_one_sub_one, if_true, if_false, if_pos, Bool.not_true, Bool.not_false, Bool.true_and, Bool.and_true, Bool.false_and, Bool.and_false, Nat.reduceEqDiff, Bool.false_eq_true, reduceCtorEq, fi_ii, fi_ib, Nat.zero_add, decide_true, decide_false, eq_self, hn, z0, h5, f_int_i, List.isEmpty_cons, h1, ix_c0, t_ne, beq_self_eq_true]
end
end K56

set_option Elab.async false
set_option linter.all false
set_option maxRecDepth 100000
set_option maxHeartbeats 4000000
namespace K56
open PySem PySem.Spec PyProof.Rows L2 Sm
theorem tp_all (n : Nat) : ∀ d ∈ (sg n).map tp, ∃ a b : Int, d = .tup [.int a, .int b] := fun d hd => by
  obtain ⟨p, _, rfl⟩ := List.mem_map.mp hd
  exact ⟨p.1, p.2, rfl⟩
section
variable {s c4 c5 c7 c8 c9 c10 c11 c12 c13 : Cell} {o : Bool}
theorem turn {n : Nat} {V : Int} (hV : V = n) (h1 : 1 ≤ V) (h2 : V ≤ 25) {S : List D} (eS : S = (sg n).map tp) {i k : Int} (hi0 : 0 ≤ i) (hi1 : i < 5) (hk : k < 1000) {d : D} (hd : Dr k d) :
    ∃ d' c5' c7' c8' c9' c10', Dr (k + 4) d' ∧ (sSeq t0 (sSeq t1 (sSeq t2 (sSeq t3 t4)))) [s, ow d, vl (.int V), .c o none (.lst S), c4, c5, vl (.int i), c7, c8, c9, c10, c11, c12, c13] =
      .nx [s, ow d', vl (.int V), vl (.lst S), c4, c5', vl (.int i), c7', c8', c9', c10', c11, c12, c13] := by
  have hLL := sg_len n
  have hsm := sg_small n (by omega)
  have hLV : 1 ≤ LL n := by
    have := LL_mono (v := 1) (w := n) (by omega) (by omega)
    have e1 : LL 1 = 1 := by decide
    omega
  generalize hL : (S.length : Int) = L
  have hL1 : L = LL n := by rw [← hL, eS, List.length_map]; exact hLL
  have hL2 : L ≤ 325 := by rw [← hL, eS, List.length_map]; omega
  obtain ⟨a, d1, a0, a1, D1, e1⟩ := f_draw hd (by omega) (n := L) (by omega) (by omega)
  obtain ⟨b, d2, b0, b1, D2, e2⟩ := f_draw D1 (by omega) (n := L) (by omega) (by omega)
  obtain ⟨c, d3, c0, c1, D3, e3⟩ := f_draw D2 (by omega) (n := L) (by omega) (by omega)
  obtain ⟨r, d4, r0, r1, D4, e4⟩ := f_draw D3 (by omega) (n := V) (by omega) (by omega)
  obtain ⟨l, l0, l1, el⟩ := pick5 (L := L) (by omega) ⟨a0, a1⟩ ⟨b0, b1⟩ ⟨c0, c1⟩ hi0 hi1
  have S_at' : ∀ k : Int, 0 ≤ k → k < L → ∃ v z : Int, 1 ≤ z ∧ z ≤ v ∧ v ≤ n ∧ k = LL (v - 1) + (v - z) ∧ atI S k = some (.tup [.int v, .int z]) := fun k k0 k1 => by
    rw [eS]
    exact S_at k0 (by rw [← eS, hL]; exact k1)
  obtain ⟨v, z, q1, q2, q3, q4, q5⟩ := S_at' l l0 l1
  have ht : 1 ≤ 1 + r ∧ 1 + r ≤ V := by omega
  generalize hT : 1 + r = t at ht
  have as1 := f_asked1 l 0 q1 q2 (by omega) q4
  have as2 := f_asked2 V t (by omega) ht.1
  have cnt := cnt_S n t ht.1 (by omega)
  rw [← eS] at cnt
  have ecnt : (if V - t + 1 > 0 then V - t + 1 else 0) = V - t + 1 := by rw [if_pos (by omega)]
  rw [ecnt] at as2
  have sn := f_sung V t (by omega) ht.1
  have as3 := f_asked3 q1 q2 ht.1 (by omega) (by omega) q4 (t := t)
  have nx := f_next q1 q2 ht.1 (by omega) (by omega) q4 (t := t)
  have hz : 400 ≤ SZ := by decide
  have s0 := t0_ok (s := s) (c2 := vl (.int V)) (c4 := c4) (c5 := c5) (c7 := c7) (c8 := c8) (c9 := c9) (c10 := c10) (c11 := c11) (c12 := c12) (c13 := c13) (o := o) e1 e2 e3 el hL
  have s1 := t1_ok (s := s) (c3 := .c o none (.lst S)) (c4 := c4) (c5 := c5) (c6 := vl (.int i)) (c7 := vl (.int l)) (c8 := c8) (c9 := c9) (c10 := c10) (c11 := c11) (c12 := c12) (c13 := c13) e4
  rw [hT] at s1
  have s2 := t2_ok (s := s) (c1 := ow d4) (c4 := c4) (c6 := vl (.int i)) (c8 := c8) (c9 := c9) (c10 := c10) (c11 := c11) (c12 := c12) (c13 := c13) (o := o) as1 q5 as2 (by rw [eS]; exact tp_all n) (by rw [cnt, hV]) (by rw [eS, List.length_map]; omega) sn
  have s3 := t3_ok (s := s) (c1 := ow d4) (c2 := vl (.int V)) (c4 := c4) (t := t) (c6 := vl (.int i)) (c8 := .emp) (c9 := c9) (c10 := c10) (c11 := c11) (c12 := c12) (c13 := c13) hL l0 (by omega) (by omega) (fun k k0 k1 => by obtain ⟨a, b, _, _, _, _, e⟩ := S_at' k k0 k1; exact ⟨a, b, e⟩)
  have s4 := t4_ok (s := s) (c1 := ow d4) (c2 := vl (.int V)) (c3 := vl (.lst S)) (c4 := c4) (t := t) (c6 := vl (.int i)) (c8 := .emp) (c10 := .emp) (c11 := c11) (c12 := c12) (c13 := c13) (F := (rngD l (L - l).toNat).filter (selT S t))
    (fun d hd => by
      have hd := (List.mem_filter.mp hd).1
      unfold rngD at hd
      obtain ⟨j, _, rfl⟩ := List.mem_map.mp hd
      exact ⟨_, rfl⟩) as3 (fun h r hf => by
      have hh := later_head (n := n) ht.1 q1 q2 q4 l0 (h := h) (r := r) (by rw [← eS, hL]; exact hf)
      exact hh) nx
  refine ⟨d4, vl (.int t), vl (.int l), .emp, ow (.lst ((rngD l (L - l).toNat).filter (selT S t))), .emp, ?_, ?_⟩
  · have : k + 4 = k + 1 + 1 + 1 + 1 := by omega
    rw [this]
    exact D4
  · simp only [p_sSeq, s0, s1, s2, s3, s4]
theorem turns {n : Nat} {V : Int} (hV : V = n) (h1 : 1 ≤ V) (h2 : V ≤ 25) {S : List D} (eS : S = (sg n).map tp) : ∀ (xs : List Int) {k : Int} {d : D} {o : Bool} {c5 c6 c7 c8 c9 c10 : Cell}, (∀ x ∈ xs, 0 ≤ x ∧ x < 5) → k + 4 * xs.length < 1000 → Dr k d →
    ∃ d' o' c5' c6' c7' c8' c9' c10', Dr (k + 4 * xs.length) d' ∧ forL (.nm 6) (sSeq t0 (sSeq t1 (sSeq t2 (sSeq t3 t4)))) (xs.map .int) [s, ow d, vl (.int V), .c o none (.lst S), c4, c5, c6, c7, c8, c9, c10, c11, c12, c13] =
      .nx [s, ow d', vl (.int V), .c o' none (.lst S), c4, c5', c6', c7', c8', c9', c10', c11, c12, c13]
  | [], k, d, o, c5, c6, c7, c8, c9, c10, hx, hk, hd => ⟨d, o, c5, c6, c7, c8, c9, c10, by simpa using hd, rfl⟩
  | x :: xs, k, d, o, c5, c6, c7, c8, c9, c10, hx, hk, hd => by
    rw [List.length_cons] at hk
    have hx0 := hx x List.mem_cons_self
    obtain ⟨d1, b5, b7, b8, b9, b10, D1, e1⟩ := turn (s := s) (c4 := c4) (c5 := c5) (c7 := c7) (c8 := c8) (c9 := c9) (c10 := c10) (c11 := c11) (c12 := c12) (c13 := c13) (o := o) hV h1 h2 eS hx0.1 hx0.2 (by omega) hd
    obtain ⟨d2, o2, g5, g6, g7, g8, g9, g10, D2, e2⟩ := turns hV h1 h2 eS xs (k := k + 4) (d := d1) (o := false) (c5 := b5) (c6 := vl (.int x)) (c7 := b7) (c8 := b8) (c9 := b9) (c10 := b10) (fun y hy => hx y (List.mem_cons_of_mem _ hy)) (by omega) D1
    refine ⟨d2, o2, g5, g6, g7, g8, g9, g10, ?_, ?_⟩
    · rw [List.length_cons]
      have : k + 4 * ((xs.length + 1 : Nat) : Int) = k + 4 + 4 * xs.length := by push_cast; omega
      rw [this]
      exact D2
    · rw [List.map_cons, forL_nx (by rfl) e1]
      exact e2
end
end K56

set_option Elab.async false
set_option linter.all false
set_option maxRecDepth 100000
set_option maxHeartbeats 4000000
namespace K56
open PySem PySem.Spec PyProof.Rows L2 Sm
section
variable {s c1 c2 c3 c4 c5 c6 c7 c8 c9 c10 c11 c12 c13 : Cell} {S : List D} {L V i l t v w r r1 r2 r3 r4 g : Int} {d d0 d1 d2 d3 : D} {o : Bool}
theorem w0_ok {a : D} (h : mkF 1 3 d__law_open [vl a] = .ok (ow d) [.emp]) : w0 [vl a, c1, c2, c3, c4, c5, c6, c7, c8, c9, c10, c11, c12, c13] = .nx [vl a, ow d, c2, c3, c4, c5, c6, c7, c8, c9, c10, c11, c12, c13] := by
  simp only [w0, h, p_sSeq, p_sIf, p_sExpr, p_sRet, p_sRetV, p_sRetN, p_sNil, p_sPass, p_sBrk, p_sCnt, p_sAsg, p_sRaise, p_sFor, p_sTry, p_sSetIx, p_sUnp, p_sParN, p_sPar2, p_evD, p_eOp, p_eC, p_eVar, p_eSeq, p_eAnd, p_eOr, p_eNot, p_eIf, p_eChain, p_eCall, p_eLc, p_dYes, p_iAny, p_iLst, p_iRange1, p_iRange2, p_eMut, evO, lookO, allD, takeA, giveB, startC, endC, un_c, un_e, setAll, asgV, setCs, mkTup, mkLst, t_lt, t_fd, t_md, t_tb, t_ti, t_l1, t_l2, t_l3, t_mx, t_mn, t_ab, t_in, t_ng, t_add, t_sub, t_mul, t_pw, t_it1, t_it2, t_it3, mAppend, lLe, lLt, List.getElem?_cons_zero, List.getElem?_cons_succ, List.set_cons_zero, List.set_cons_succ, List.length_cons, List.length_nil, List.map_cons, List.map_nil, List.cons_append, List.nil_append, List.append_nil, List.replicate_zero, List.replicate_succ, Nat.reduceAdd, Nat.reduceSub, Nat.sub_self, Nat.add_one_sub_one, if_true, if_false, if_pos, Bool.not_true, Bool.not_false, Bool.true_and, Bool.and_true, Bool.false_and, Bool.and_false, Nat.reduceEqDiff, Bool.false_eq_true, reduceCtorEq, fi_ii, fi_ib, Nat.zero_add, decide_true, decide_false, eq_self]
theorem w1_ok (h : mkF 2 6 d__law_draw [ow d, vl (.int 25)] = .ok (vl (.int r)) [ow d1, .emp]) : w1 [s, ow d, c2, c3, c4, c5, c6, c7, c8, c9, c10, c11, c12, c13] = .nx [s, ow d1, vl (.int (1 + r)), ow (.lst []), c4, c5, c6, c7, c8, c9, c10, c11, c12, c13] := by
  simp only [w1, h, p_sSeq, p_sIf, p_sExpr, p_sRet, p_sRetV, p_sRetN, p_sNil, p_sPass, p_sBrk, p_sCnt, p_sAsg, p_sRaise, p_sFor, p_sTry, p_sSetIx, p_sUnp, p_sParN, p_sPar2, p_evD, p_eOp, p_eC, p_eVar, p_eSeq, p_eAnd, p_eOr, p_eNot, p_eIf, p_eChain, p_eCall, p_eLc, p_dYes, p_iAny, p_iLst, p_iRange1, p_iRange2, p_eMut, evO, lookO, allD, takeA, giveB, startC, endC, un_c, un_e, setAll, asgV, setCs, mkTup, mkLst, t_lt, t_fd, t_md, t_tb, t_ti, t_l1, t_l2, t_l3, t_mx, t_mn, t_ab, t_in, t_ng, t_add, t_sub, t_mul, t_pw, t_it1, t_it2, t_it3, mAppend, lLe, lLt, List.getElem?_cons_zero, List.getElem?_cons_succ, List.set_cons_zero, List.set_cons_succ, List.length_cons, List.length_nil, List.map_cons, List.map_nil, List.cons_append, List.nil_append, List.append_nil, List.replicate_zero, List.replicate_succ, Nat.reduceAdd, Nat.reduceSub, Nat.sub_self, Nat.add_one_sub_one, if_true, if_false, if_pos, Bool.not_true, Bool.not_false, Bool.true_and, Bool.and_true, Bool.false_and, Bool.and_false, Nat.reduceEqDiff, Bool.false_eq_true, reduceCtorEq, fi_ii, fi_ib, Nat.zero_add, decide_true, decide_false, eq_self, z0]
theorem w2_ok {n : Nat} (hV : V = n) (h2 : V ≤ 25) : ∃ c4' c5', w2 [s, c1, vl (.int V), ow (.lst []), c4, c5, c6, c7, c8, c9, c10, c11, c12, c13] = .nx [s, c1, vl (.int V), ow (.lst ((sg n).map tp)), c4', c5', c6, c7, c8, c9, c10, c11, c12, c13] := by
  obtain ⟨a, b, e⟩ := outer (s := s) (c1 := c1) (c2 := vl (.int V)) (c6 := c6) (c7 := c7) (c8 := c8) (c9 := c9) (c10 := c10) (c11 := c11) (c12 := c12) (c13 := c13) n 0 c4 c5 (by omega)
  rw [Nat.zero_add] at e
  refine ⟨a, b, ?_⟩
  have k1 : rngOk 1 = true := by decide
  have k2 : rngOk (V + 1) = true := by unfold rngOk; rw [decide_eq_true (by omega), decide_eq_true (by omega)]; rfl
  have k3 : rngD 1 (V + 1 - 1).toNat = (List.range' 0 n).map fun i : Nat => D.int (1 + (i : Int)) := by
    unfold rngD
    rw [show (V + 1 - 1).toNat = n by omega, List.range_eq_range']
  simp only [w2, p_sSeq, p_sIf, p_sExpr, p_sRet, p_sRetV, p_sRetN, p_sNil, p_sPass, p_sBrk, p_sCnt, p_sAsg, p_sRaise, p_sFor, p_sTry, p_sSetIx, p_sUnp, p_sParN, p_sPar2, p_evD, p_eOp, p_eC, p_eVar, p_eSeq, p_eAnd, p_eOr, p_eNot, p_eIf, p_eChain, p_eCall, p_eLc, p_dYes, p_iAny, p_iLst, p_iRange1, p_iRange2, p_eMut, evO, lookO, allD, takeA, giveB, startC, endC, un_c, un_e, setAll, asgV, setCs, mkTup, mkLst, t_lt, t_fd, t_md, t_tb, t_ti, t_l1, t_l2, t_l3, t_mx, t_mn, t_ab, t_in, t_ng, t_add, t_sub, t_mul, t_pw, t_it1, t_it2, t_it3, mAppend, lLe, lLt, List.getElem?_cons_zero, List.getElem?_cons_succ, List.set_cons_zero, List.set_cons_succ, List.length_cons, List.length_nil, List.map_cons, List.map_nil, List.cons_append, List.nil_append, List.append_nil, List.replicate_zero, List.replicate_succ, Nat.reduceAdd, Nat.reduceSub, Nat.sub_self, Nat.add_one_sub_one, if_true, if_false, if_pos, Bool.not_true, Bool.not_false, Bool.true_and, Bool.and_true, Bool.false_and, Bool.and_false, Nat.reduceEqDiff, Bool.false_eq_true, reduceCtorEq, fi_ii, fi_ib, Nat.zero_add, decide_true, decide_false, eq_self, k1, k2, k3]
  exact e
theorem w3_ok (a0 : mkF 3 4 d__law_asked [vl (.int 0), vl (.int V), vl (.int 0)] = .ok (vl (.int L)) [.emp, .emp, .emp]) (hL : (S.length : Int) = L) (a1 : mkF 1 1 d_lines_sung [vl (.int V)] = .ok (vl (.int r)) [.emp]) (a2 : mkF 1 1 d_lines_sung [vl (.int 0)] = .ok (vl (.int 0)) [.emp]) :
    w3 [s, c1, vl (.int V), ow (.lst S), c4, c5, c6, c7, c8, c9, c10, c11, c12, c13] = .nx [s, c1, vl (.int V), ow (.lst S), c4, c5, c6, c7, c8, c9, c10, c11, c12, c13] := by
  simp only [w3, a0, a1, a2, hL, f_int_i, p_sSeq, p_sIf, p_sExpr, p_sRet, p_sRetV, p_sRetN, p_sNil, p_sPass, p_sBrk, p_sCnt, p_sAsg, p_sRaise, p_sFor, p_sTry, p_sSetIx, p_sUnp, p_sParN, p_sPar2, p_evD, p_eOp, p_eC, p_eVar, p_eSeq, p_eAnd, p_eOr, p_eNot, p_eIf, p_eChain, p_eCall, p_eLc, p_dYes, p_iAny, p_iLst, p_iRange1, p_iRange2, p_eMut, evO, lookO, allD, takeA, giveB, startC, endC, un_c, un_e, setAll, asgV, setCs, mkTup, mkLst, t_lt, t_fd, t_md, t_tb, t_ti, t_l1, t_l2, t_l3, t_mx, t_mn, t_ab, t_in, t_ng, t_add, t_sub, t_mul, t_pw, t_it1, t_it2, t_it3, mAppend, lLe, lLt, List.getElem?_cons_zero, List.getElem?_cons_succ, List.set_cons_zero, List.set_cons_succ, List.length_cons, List.length_nil, List.map_cons, List.map_nil, List.cons_append, List.nil_append, List.append_nil, List.replicate_zero, List.replicate_succ, Nat.reduceAdd, Nat.reduceSub, Nat.sub_self, Nat.add_one_sub_one, if_true, if_false, if_pos, Bool.not_true, Bool.not_false, Bool.true_and, Bool.and_true, Bool.false_and, Bool.and_false, Nat.reduceEqDiff, Bool.false_eq_true, reduceCtorEq, fi_ii, fi_ib, Nat.zero_add, decide_true, decide_false, eq_self, t_ne, beq_self_eq_true]
theorem w5_ok (h : mkF 2 6 d__law_draw [ow d, vl (.int 1000000)] = .ok (vl (.int r)) [ow d1, .emp]) (a2 : mkF 3 4 d__law_asked [vl (.int 2), vl (.int V), vl (.int (V + 1 + r))] = .ok (vl (.int 0)) [.emp, .emp, .emp]) :
    w5 [s, ow d, vl (.int V), c3, c4, c5, c6, c7, c8, c9, c10, c11, c12, c13] = .nx [s, ow d1, vl (.int V), c3, c4, c5, c6, c7, c8, c9, c10, c11, c12, c13] := by
  have hp : powOk 10 6 = true := by decide
  have e6 : (10 : Int) ^ (6 : Int).toNat = 1000000 := by decide
  simp only [w5, h, a2, hp, e6, p_sSeq, p_sIf, p_sExpr, p_sRet, p_sRetV, p_sRetN, p_sNil, p_sPass, p_sBrk, p_sCnt, p_sAsg, p_sRaise, p_sFor, p_sTry, p_sSetIx, p_sUnp, p_sParN, p_sPar2, p_evD, p_eOp, p_eC, p_eVar, p_eSeq, p_eAnd, p_eOr, p_eNot, p_eIf, p_eChain, p_eCall, p_eLc, p_dYes, p_iAny, p_iLst, p_iRange1, p_iRange2, p_eMut, evO, lookO, allD, takeA, giveB, startC, endC, un_c, un_e, setAll, asgV, setCs, mkTup, mkLst, t_lt, t_fd, t_md, t_tb, t_ti, t_l1, t_l2, t_l3, t_mx, t_mn, t_ab, t_in, t_ng, t_add, t_sub, t_mul, t_pw, t_it1, t_it2, t_it3, mAppend, lLe, lLt, List.getElem?_cons_zero, List.getElem?_cons_succ, List.set_cons_zero, List.set_cons_succ, List.length_cons, List.length_nil, List.map_cons, List.map_nil, List.cons_append, List.nil_append, List.append_nil, List.replicate_zero, List.replicate_succ, Nat.reduceAdd, Nat.reduceSub, Nat.sub_self, Nat.add_one_sub_one, if_true, if_false, if_pos, Bool.not_true, Bool.not_false, Bool.true_and, Bool.and_true, Bool.false_and, Bool.and_false, Nat.reduceEqDiff, Bool.false_eq_true, reduceCtorEq, fi_ii, fi_ib, Nat.zero_add, decide_true, decide_false, eq_self, t_ne, beq_self_eq_true]
theorem p9 : powOk 10 9 = true := by decide
theorem e9 : (10 : Int) ^ (9 : Int).toNat = 1000000000 := by decide
theorem p6 : powOk 10 6 = true := by decide
theorem e6 : (10 : Int) ^ (6 : Int).toNat = 1000000 := by decide
theorem p20 : powOk 10 20 = true := by decide
theorem e20 : (10 : Int) ^ (20 : Int).toNat = 100000000000000000000 := by decide
theorem w6_ok (h : mkF 2 6 d__law_draw [ow d, vl (.int 1000000000)] = .ok (vl (.int r)) [ow d1, .emp]) (e : 100000000000000000000 + r = g) :
    w6 [s, ow d, c2, c3, c4, c5, c6, c7, c8, c9, c10, c11, c12, c13] = .nx [s, ow d1, c2, c3, c4, c5, c6, c7, c8, c9, c10, vl (.int g), c12, c13] := by
  simp only [w6, h, p9, e9, p20, e20, p_sSeq, p_sIf, p_sExpr, p_sRet, p_sRetV, p_sRetN, p_sNil, p_sPass, p_sBrk, p_sCnt, p_sAsg, p_sRaise, p_sFor, p_sTry, p_sSetIx, p_sUnp, p_sParN, p_sPar2, p_evD, p_eOp, p_eC, p_eVar, p_eSeq, p_eAnd, p_eOr, p_eNot, p_eIf, p_eChain, p_eCall, p_eLc, p_dYes, p_iAny, p_iLst, p_iRange1, p_iRange2, p_eMut, evO, lookO, allD, takeA, giveB, startC, endC, un_c, un_e, setAll, asgV, setCs, mkTup, mkLst, t_lt, t_fd, t_md, t_tb, t_ti, t_l1, t_l2, t_l3, t_mx, t_mn, t_ab, t_in, t_ng, t_add, t_sub, t_mul, t_pw, t_it1, t_it2, t_it3, mAppend, lLe, lLt, List.getElem?_cons_zero, List.getElem?_cons_succ, List.set_cons_zero, List.set_cons_succ, List.length_cons, List.length_nil, List.map_cons, List.map_nil, List.cons_append, List.nil_append, List.append_nil, List.replicate_zero, List.replicate_succ, Nat.reduceAdd, Nat.reduceSub, Nat.sub_self, Nat.add_one_sub_one, if_true, if_false, if_pos, Bool.not_true, Bool.not_false, Bool.true_and, Bool.and_true, Bool.false_and, Bool.and_false, Nat.reduceEqDiff, Bool.false_eq_true, reduceCtorEq, fi_ii, fi_ib, Nat.zero_add, decide_true, decide_false, eq_self, e]
theorem w7_ok (hm : mulOk g (g - 1) = true) (e : g * (g - 1) / 2 = r) :
    w7 [s, c1, c2, c3, c4, c5, c6, c7, c8, c9, c10, vl (.int g), c12, c13] = .nx [s, c1, c2, c3, c4, c5, c6, c7, c8, c9, c10, vl (.int g), vl (.int r), c13] := by
  have hd : divOk 2 = true := by decide
  simp only [w7, hm, hd, p_sSeq, p_sIf, p_sExpr, p_sRet, p_sRetV, p_sRetN, p_sNil, p_sPass, p_sBrk, p_sCnt, p_sAsg, p_sRaise, p_sFor, p_sTry, p_sSetIx, p_sUnp, p_sParN, p_sPar2, p_evD, p_eOp, p_eC, p_eVar, p_eSeq, p_eAnd, p_eOr, p_eNot, p_eIf, p_eChain, p_eCall, p_eLc, p_dYes, p_iAny, p_iLst, p_iRange1, p_iRange2, p_eMut, evO, lookO, allD, takeA, giveB, startC, endC, un_c, un_e, setAll, asgV, setCs, mkTup, mkLst, t_lt, t_fd, t_md, t_tb, t_ti, t_l1, t_l2, t_l3, t_mx, t_mn, t_ab, t_in, t_ng, t_add, t_sub, t_mul, t_pw, t_it1, t_it2, t_it3, mAppend, lLe, lLt, List.getElem?_cons_zero, List.getElem?_cons_succ, List.set_cons_zero, List.set_cons_succ, List.length_cons, List.length_nil, List.map_cons, List.map_nil, List.cons_append, List.nil_append, List.append_nil, List.replicate_zero, List.replicate_succ, Nat.reduceAdd, Nat.reduceSub, Nat.sub_self, Nat.add_one_sub_one, if_true, if_false, if_pos, Bool.not_true, Bool.not_false, Bool.true_and, Bool.and_true, Bool.false_and, Bool.and_false, Nat.reduceEqDiff, Bool.false_eq_true, reduceCtorEq, fi_ii, fi_ib, Nat.zero_add, decide_true, decide_false, eq_self, e]
theorem w8_ok (h1 : mkF 2 6 d__law_draw [ow d, vl (.int 1000000000)] = .ok (vl (.int r1)) [ow d1, .emp]) (h2 : mkF 2 6 d__law_draw [ow d1, vl (.int 1000000)] = .ok (vl (.int r2)) [ow d2, .emp]) (h3 : mkF 2 6 d__law_draw [ow d2, vl (.int 4)] = .ok (vl (.int r3)) [ow d3, .emp])
    (hp : fIx [.lst [.int 1, .int g, .int (1 + r1), .int (g - r2)], .int r3] = some (vl (.int t))) :
    w8 [s, ow d, c2, c3, c4, c5, c6, c7, c8, c9, c10, vl (.int g), c12, c13] = .nx [s, ow d3, c2, c3, c4, vl (.int t), c6, c7, c8, c9, c10, vl (.int g), c12, c13] := by
  simp only [w8, h1, h2, h3, p9, e9, p6, e6, hp, p_sSeq, p_sIf, p_sExpr, p_sRet, p_sRetV, p_sRetN, p_sNil, p_sPass, p_sBrk, p_sCnt, p_sAsg, p_sRaise, p_sFor, p_sTry, p_sSetIx, p_sUnp, p_sParN, p_sPar2, p_evD, p_eOp, p_eC, p_eVar, p_eSeq, p_eAnd, p_eOr, p_eNot, p_eIf, p_eChain, p_eCall, p_eLc, p_dYes, p_iAny, p_iLst, p_iRange1, p_iRange2, p_eMut, evO, lookO, allD, takeA, giveB, startC, endC, un_c, un_e, setAll, asgV, setCs, mkTup, mkLst, t_lt, t_fd, t_md, t_tb, t_ti, t_l1, t_l2, t_l3, t_mx, t_mn, t_ab, t_in, t_ng, t_add, t_sub, t_mul, t_pw, t_it1, t_it2, t_it3, mAppend, lLe, lLt, List.getElem?_cons_zero, List.getElem?_cons_succ, List.set_cons_zero, List.set_cons_succ, List.length_cons, List.length_nil, List.map_cons, List.map_nil, List.cons_append, List.nil_append, List.append_nil, List.replicate_zero, List.replicate_succ, Nat.reduceAdd, Nat.reduceSub, Nat.sub_self, Nat.add_one_sub_one, if_true, if_false, if_pos, Bool.not_true, Bool.not_false, Bool.true_and, Bool.and_true, Bool.false_and, Bool.and_false, Nat.reduceEqDiff, Bool.false_eq_true, reduceCtorEq, fi_ii, fi_ib, Nat.zero_add, decide_true, decide_false, eq_self, z4]
theorem w9_ok (e : r + g - t = l) : w9 [s, c1, c2, c3, c4, vl (.int t), c6, c7, c8, c9, c10, vl (.int g), vl (.int r), c13] = .nx [s, c1, c2, c3, c4, vl (.int t), c6, vl (.int l), c8, c9, c10, vl (.int g), vl (.int r), c13] := by
  simp only [w9, p_sSeq, p_sIf, p_sExpr, p_sRet, p_sRetV, p_sRetN, p_sNil, p_sPass, p_sBrk, p_sCnt, p_sAsg, p_sRaise, p_sFor, p_sTry, p_sSetIx, p_sUnp, p_sParN, p_sPar2, p_evD, p_eOp, p_eC, p_eVar, p_eSeq, p_eAnd, p_eOr, p_eNot, p_eIf, p_eChain, p_eCall, p_eLc, p_dYes, p_iAny, p_iLst, p_iRange1, p_iRange2, p_eMut, evO, lookO, allD, takeA, giveB, startC, endC, un_c, un_e, setAll, asgV, setCs, mkTup, mkLst, t_lt, t_fd, t_md, t_tb, t_ti, t_l1, t_l2, t_l3, t_mx, t_mn, t_ab, t_in, t_ng, t_add, t_sub, t_mul, t_pw, t_it1, t_it2, t_it3, mAppend, lLe, lLt, List.getElem?_cons_zero, List.getElem?_cons_succ, List.set_cons_zero, List.set_cons_succ, List.length_cons, List.length_nil, List.map_cons, List.map_nil, List.cons_append, List.nil_append, List.append_nil, List.replicate_zero, List.replicate_succ, Nat.reduceAdd, Nat.reduceSub, Nat.sub_self, Nat.add_one_sub_one, if_true, if_false, if_pos, Bool.not_true, Bool.not_false, Bool.true_and, Bool.and_true, Bool.false_and, Bool.and_false, Nat.reduceEqDiff, Bool.false_eq_true, reduceCtorEq, fi_ii, fi_ib, Nat.zero_add, decide_true, decide_false, eq_self, e]
theorem w10_ok {A : Int} (h1 : mkF 1 1 d_lines_sung [vl (.int g)] = .ok (vl (.int A)) [.emp]) (h2 : mkF 1 1 d_lines_sung [vl (.int (g - 1))] = .ok (vl (.int r)) [.emp]) (e : A - r = g)
    (h3 : mkF 1 2 d_thing_at [vl (.int l)] = .ok (vl (.tup [.int g, .int t])) [.emp]) (h4 : mkF 1 2 d_thing_at [vl (.int r)] = .ok (vl (.tup [.int g, .int g])) [.emp]) (h5 : mkF 1 2 d_thing_at [vl (.int (r - 1))] = .ok (vl (.tup [.int (g - 1), .int 1])) [.emp]) :
    w10 [s, c1, c2, c3, c4, vl (.int t), c6, vl (.int l), c8, c9, c10, vl (.int g), vl (.int r), c13] = .nx [s, c1, c2, c3, c4, vl (.int t), c6, vl (.int l), c8, c9, c10, vl (.int g), vl (.int r), c13] := by
  simp only [w10, h1, h2, h3, h4, h5, e, p_sSeq, p_sIf, p_sExpr, p_sRet, p_sRetV, p_sRetN, p_sNil, p_sPass, p_sBrk, p_sCnt, p_sAsg, p_sRaise, p_sFor, p_sTry, p_sSetIx, p_sUnp, p_sParN, p_sPar2, p_evD, p_eOp, p_eC, p_eVar, p_eSeq, p_eAnd, p_eOr, p_eNot, p_eIf, p_eChain, p_eCall, p_eLc, p_dYes, p_iAny, p_iLst, p_iRange1, p_iRange2, p_eMut, evO, lookO, allD, takeA, giveB, startC, endC, un_c, un_e, setAll, asgV, setCs, mkTup, mkLst, t_lt, t_fd, t_md, t_tb, t_ti, t_l1, t_l2, t_l3, t_mx, t_mn, t_ab, t_in, t_ng, t_add, t_sub, t_mul, t_pw, t_it1, t_it2, t_it3, mAppend, lLe, lLt, List.getElem?_cons_zero, List.getElem?_cons_succ, List.set_cons_zero, List.set_cons_succ, List.length_cons, List.length_nil, List.map_cons, List.map_nil, List.cons_append, List.nil_append, List.append_nil, List.replicate_zero, List.replicate_succ, Nat.reduceAdd, Nat.reduceSub, Nat.sub_self, Nat.add_one_sub_one, if_true, if_false, if_pos, Bool.not_true, Bool.not_false, Bool.true_and, Bool.and_true, Bool.false_and, Bool.and_false, Nat.reduceEqDiff, Bool.false_eq_true, reduceCtorEq, fi_ii, fi_ib, Nat.zero_add, decide_true, decide_false, eq_self, z2, t_ne, t_net, beq_self_eq_true]
theorem w11_ok (h1 : mkF 2 2 d_sung_of [vl (.int g), vl (.int t)] = .ok (vl (.int (g - t + 1))) [.emp, .emp]) (h2 : mkF 2 4 d_next_line_of [vl (.int t), vl (.int l)] = .ok (vl (.int l)) [.emp, .emp])
    (h3 : mkF 2 4 d_next_line_of [vl (.int t), vl (.int (l + 1))] = .ok (vl (.int (r + g + g + 1 - t))) [.emp, .emp]) :
    w11 [s, c1, c2, c3, c4, vl (.int t), c6, vl (.int l), c8, c9, c10, vl (.int g), vl (.int r), c13] = .nx [s, c1, c2, c3, c4, vl (.int t), c6, vl (.int l), c8, c9, c10, vl (.int g), vl (.int r), c13] := by
  simp only [w11, h1, h2, h3, p_sSeq, p_sIf, p_sExpr, p_sRet, p_sRetV, p_sRetN, p_sNil, p_sPass, p_sBrk, p_sCnt, p_sAsg, p_sRaise, p_sFor, p_sTry, p_sSetIx, p_sUnp, p_sParN, p_sPar2, p_evD, p_eOp, p_eC, p_eVar, p_eSeq, p_eAnd, p_eOr, p_eNot, p_eIf, p_eChain, p_eCall, p_eLc, p_dYes, p_iAny, p_iLst, p_iRange1, p_iRange2, p_eMut, evO, lookO, allD, takeA, giveB, startC, endC, un_c, un_e, setAll, asgV, setCs, mkTup, mkLst, t_lt, t_fd, t_md, t_tb, t_ti, t_l1, t_l2, t_l3, t_mx, t_mn, t_ab, t_in, t_ng, t_add, t_sub, t_mul, t_pw, t_it1, t_it2, t_it3, mAppend, lLe, lLt, List.getElem?_cons_zero, List.getElem?_cons_succ, List.set_cons_zero, List.set_cons_succ, List.length_cons, List.length_nil, List.map_cons, List.map_nil, List.cons_append, List.nil_append, List.append_nil, List.replicate_zero, List.replicate_succ, Nat.reduceAdd, Nat.reduceSub, Nat.sub_self, Nat.add_one_sub_one, if_true, if_false, if_pos, Bool.not_true, Bool.not_false, Bool.true_and, Bool.and_true, Bool.false_and, Bool.and_false, Nat.reduceEqDiff, Bool.false_eq_true, reduceCtorEq, fi_ii, fi_ib, Nat.zero_add, decide_true, decide_false, eq_self, t_ne, beq_self_eq_true]
theorem w12_ok (h1 : mkF 2 6 d__law_draw [ow d, vl (.int 1000000000)] = .ok (vl (.int r1)) [ow d1, .emp]) (h2 : mkF 2 4 d_next_line_of [vl (.int (g + 5)), vl (.int r1)] = .ok (vl (.int ((g + 5) * (g + 4) / 2))) [.emp, .emp]) (hm : mulOk (g + 5) (g + 4) = true) :
    w12 [s, ow d, c2, c3, c4, c5, c6, c7, c8, c9, c10, vl (.int g), c12, c13] = .nx [s, ow d1, c2, c3, c4, c5, c6, c7, c8, c9, c10, vl (.int g), c12, c13] := by
  have hd : divOk 2 = true := by decide
  simp only [w12, h1, h2, hm, hd, p9, e9, p_sSeq, p_sIf, p_sExpr, p_sRet, p_sRetV, p_sRetN, p_sNil, p_sPass, p_sBrk, p_sCnt, p_sAsg, p_sRaise, p_sFor, p_sTry, p_sSetIx, p_sUnp, p_sParN, p_sPar2, p_evD, p_eOp, p_eC, p_eVar, p_eSeq, p_eAnd, p_eOr, p_eNot, p_eIf, p_eChain, p_eCall, p_eLc, p_dYes, p_iAny, p_iLst, p_iRange1, p_iRange2, p_eMut, evO, lookO, allD, takeA, giveB, startC, endC, un_c, un_e, setAll, asgV, setCs, mkTup, mkLst, t_lt, t_fd, t_md, t_tb, t_ti, t_l1, t_l2, t_l3, t_mx, t_mn, t_ab, t_in, t_ng, t_add, t_sub, t_mul, t_pw, t_it1, t_it2, t_it3, mAppend, lLe, lLt, List.getElem?_cons_zero, List.getElem?_cons_succ, List.set_cons_zero, List.set_cons_succ, List.length_cons, List.length_nil, List.map_cons, List.map_nil, List.cons_append, List.nil_append, List.append_nil, List.replicate_zero, List.replicate_succ, Nat.reduceAdd, Nat.reduceSub, Nat.sub_self, Nat.add_one_sub_one, if_true, if_false, if_pos, Bool.not_true, Bool.not_false, Bool.true_and, Bool.and_true, Bool.false_and, Bool.and_false, Nat.reduceEqDiff, Bool.false_eq_true, reduceCtorEq, fi_ii, fi_ib, Nat.zero_add, decide_true, decide_false, eq_self, t_ne, beq_self_eq_true]
theorem w13_ok : w13 [s, c1, c2, c3, c4, c5, c6, c7, c8, c9, c10, c11, c12, c13] = .nx [s, c1, c2, c3, c4, c5, c6, c7, c8, c9, c10, c11, c12, ow (.lst [.str "OutOfRange", .str "OutOfRange", .str "OutOfRange", .str "OutOfRange", .str "OutOfRange", .str "OutOfRange"])] := by
  simp only [w13, p_sSeq, p_sIf, p_sExpr, p_sRet, p_sRetV, p_sRetN, p_sNil, p_sPass, p_sBrk, p_sCnt, p_sAsg, p_sRaise, p_sFor, p_sTry, p_sSetIx, p_sUnp, p_sParN, p_sPar2, p_evD, p_eOp, p_eC, p_eVar, p_eSeq, p_eAnd, p_eOr, p_eNot, p_eIf, p_eChain, p_eCall, p_eLc, p_dYes, p_iAny, p_iLst, p_iRange1, p_iRange2, p_eMut, evO, lookO, allD, takeA, giveB, startC, endC, un_c, un_e, setAll, asgV, setCs, mkTup, mkLst, t_lt, t_fd, t_md, t_tb, t_ti, t_l1, t_l2, t_l3, t_mx, t_mn, t_ab, t_in, t_ng, t_add, t_sub, t_mul, t_pw, t_it1, t_it2, t_it3, mAppend, lLe, lLt, List.getElem?_cons_zero, List.getElem?_cons_succ, List.set_cons_zero, List.set_cons_succ, List.length_cons, List.length_nil, List.map_cons, List.map_nil, List.cons_append, List.nil_append, List.append_nil, List.replicate_zero, List.replicate_succ, Nat.reduceAdd, Nat.reduceSub, Nat.sub_self, Nat.add_one_sub_one, if_true, if_false, if_pos, Bool.not_true, Bool.not_false, Bool.true_and, Bool.and_true, Bool.false_and, Bool.and_false, Nat.reduceEqDiff, Bool.false_eq_true, reduceCtorEq, fi_ii, fi_ib, Nat.zero_add, decide_true, decide_false, eq_self, z6, f_asked0n (-1) 0 (by decide), f_asked1n (-1) 0 (by decide), f_asked2n1 (-1) 1 (by decide), f_asked2n2 1 0 (by decide) (by decide), f_asked3n1 0 0 (by decide), f_asked3n2 1 (-1) (by decide) (by decide)]
theorem same6 : fEq [.lst [.str "OutOfRange", .str "OutOfRange", .str "OutOfRange", .str "OutOfRange", .str "OutOfRange", .str "OutOfRange"], .lst [.str "OutOfRange", .str "OutOfRange", .str "OutOfRange", .str "OutOfRange", .str "OutOfRange", .str "OutOfRange"]] = some (vl (.bl true)) := by
  simp only [fEq, eqOk, D.plain, D.plains, D.depth, D.depths, D.eqv, D.eqvs, beq_self_eq_true, Bool.and_true, Nat.max_self, Nat.min_self, Nat.zero_add, Nat.reduceLeDiff, decide_true, if_true]
theorem six : fMul [.lst [.str "OutOfRange"], .int 6] = some (ow (.lst [.str "OutOfRange", .str "OutOfRange", .str "OutOfRange", .str "OutOfRange", .str "OutOfRange", .str "OutOfRange"])) := by
  have h : (decide (-(2 ^ 63) ≤ (6 : Int)) && decide ((6 : Int) < 2 ^ 63) && decide (([D.str "OutOfRange"] : List D).length * (6 : Int).toNat ≤ SZ)) = true := by decide
  show (if (decide (-(2 ^ 63) ≤ (6 : Int)) && decide ((6 : Int) < 2 ^ 63) && decide (([D.str "OutOfRange"] : List D).length * (6 : Int).toNat ≤ SZ)) then some (ow (.lst (rptD 6 [D.str "OutOfRange"]))) else none) = _
  rw [if_pos h]
  rfl
theorem w14_ok : w14 [s, c1, c2, c3, c4, c5, c6, c7, c8, c9, c10, c11, c12, ow (.lst [.str "OutOfRange", .str "OutOfRange", .str "OutOfRange", .str "OutOfRange", .str "OutOfRange", .str "OutOfRange"])] =
    .rt (vl (.bl true)) [s, c1, c2, c3, c4, c5, c6, c7, c8, c9, c10, c11, c12, ow (.lst [.str "OutOfRange", .str "OutOfRange", .str "OutOfRange", .str "OutOfRange", .str "OutOfRange", .str "OutOfRange"])] := by
  simp only [w14, p_sSeq, p_sIf, p_sExpr, p_sRet, p_sRetV, p_sRetN, p_sNil, p_sPass, p_sBrk, p_sCnt, p_sAsg, p_sRaise, p_sFor, p_sTry, p_sSetIx, p_sUnp, p_sParN, p_sPar2, p_evD, p_eOp, p_eC, p_eVar, p_eSeq, p_eAnd, p_eOr, p_eNot, p_eIf, p_eChain, p_eCall, p_eLc, p_dYes, p_iAny, p_iLst, p_iRange1, p_iRange2, p_eMut, evO, lookO, allD, takeA, giveB, startC, endC, un_c, un_e, setAll, asgV, setCs, mkTup, mkLst, t_lt, t_fd, t_md, t_tb, t_ti, t_l1, t_l2, t_l3, t_mx, t_mn, t_ab, t_in, t_ng, t_add, t_sub, t_mul, t_pw, t_it1, t_it2, t_it3, mAppend, lLe, lLt, List.getElem?_cons_zero, List.getElem?_cons_succ, List.set_cons_zero, List.set_cons_succ, List.length_cons, List.length_nil, List.map_cons, List.map_nil, List.cons_append, List.nil_append, List.append_nil, List.replicate_zero, List.replicate_succ, Nat.reduceAdd, Nat.reduceSub, Nat.sub_self, Nat.add_one_sub_one, if_true, if_false, if_pos, Bool.not_true, Bool.not_false, Bool.true_and, Bool.and_true, Bool.false_and, Bool.and_false, Nat.reduceEqDiff, Bool.false_eq_true, reduceCtorEq, fi_ii, fi_ib, Nat.zero_add, decide_true, decide_false, eq_self, z1, six, same6]
end
end K56

set_option Elab.async false
set_option linter.all false
set_option maxRecDepth 100000
set_option maxHeartbeats 4000000
namespace K56
open PySem PySem.Spec PyProof.Rows L2 Sm
theorem stands : ∀ k : Nat, ∃ v s : Int, 1 ≤ s ∧ s ≤ v ∧ v ≤ k + 1 ∧ (k : Int) = LL (v - 1) + (v - s)
  | 0 => ⟨1, 1, by decide, by decide, by decide, by decide⟩
  | k + 1 => by
    obtain ⟨v, s, h1, h2, h3, h4⟩ := stands k
    by_cases q : s = 1
    · refine ⟨v + 1, v + 1, by omega, by omega, by push_cast; omega, ?_⟩
      have := LL_step v
      rw [Int.add_sub_cancel]
      push_cast
      omega
    · exact ⟨v, s - 1, by omega, by omega, by push_cast; omega, by push_cast; omega⟩
theorem pick4 {g a b i : Int} (hg : 10 ^ 20 ≤ g) (ha : 0 ≤ a ∧ a < 1000000000) (hb : 0 ≤ b ∧ b < 1000000) (h0 : 0 ≤ i) (h1 : i < 4) :
    ∃ t : Int, 1 ≤ t ∧ t ≤ g ∧ fIx [.lst [.int 1, .int g, .int (1 + a), .int (g - b)], .int i] = some (vl (.int t)) := by
  have : i = 0 ∨ i = 1 ∨ i = 2 ∨ i = 3 := by omega
  rcases this with rfl | rfl | rfl | rfl
  · exact ⟨1, by omega, by omega, rfl⟩
  · exact ⟨g, by omega, by omega, rfl⟩
  · exact ⟨1 + a, by omega, by omega, rfl⟩
  · exact ⟨g - b, by omega, by omega, rfl⟩
theorem law_ok : ∀ ns : List Int, ns.length ≤ 63 → ∃ cs', mkF 1 14 d_law [vl (.frl (ns.map .int))] = .ok (vl (.bl true)) cs' := by
  intro ns hns
  obtain ⟨D0, q0, e0⟩ := f_open ns hns
  obtain ⟨r, D1, r0, r1, q1, e1⟩ := f_draw q0 (by decide) (n := 25) (by decide) (by decide)
  generalize hV : 1 + r = V
  obtain ⟨n, hn⟩ := Int.eq_ofNat_of_zero_le (show 0 ≤ V by omega)
  have hLL := sg_len n
  generalize eS : (sg n).map tp = S
  have hL : (S.length : Int) = LL V := by rw [← eS, List.length_map, hn]; exact hLL
  have a0 := f_asked0 V 0 (by omega) (by omega)
  have a1 := f_lines_ok V (by omega) (by omega)
  have a2 : mkF 1 1 d_lines_sung [vl (.int 0)] = .ok (vl (.int 0)) [.emp] := f_lines_ok 0 (by decide) (by decide)
  have s0 := w0_ok (c1 := .emp) (c2 := .emp) (c3 := .emp) (c4 := .emp) (c5 := .emp) (c6 := .emp) (c7 := .emp) (c8 := .emp) (c9 := .emp) (c10 := .emp) (c11 := .emp) (c12 := .emp) (c13 := .emp) e0
  have s1 := w1_ok (s := vl (.frl (ns.map .int))) (c2 := .emp) (c3 := .emp) (c4 := .emp) (c5 := .emp) (c6 := .emp) (c7 := .emp) (c8 := .emp) (c9 := .emp) (c10 := .emp) (c11 := .emp) (c12 := .emp) (c13 := .emp) e1
  rw [hV] at s1
  obtain ⟨x4, x5, s2⟩ := w2_ok (s := vl (.frl (ns.map .int))) (c1 := ow D1) (c4 := .emp) (c5 := .emp) (c6 := .emp) (c7 := .emp) (c8 := .emp) (c9 := .emp) (c10 := .emp) (c11 := .emp) (c12 := .emp) (c13 := .emp) (n := n) hn (by omega)
  rw [eS] at s2
  have s3 := w3_ok (s := vl (.frl (ns.map .int))) (c1 := ow D1) (c4 := x4) (c5 := x5) (c6 := .emp) (c7 := .emp) (c8 := .emp) (c9 := .emp) (c10 := .emp) (c11 := .emp) (c12 := .emp) (c13 := .emp) a0 hL a1 a2
  obtain ⟨D2, o2, y5, y6, y7, y8, y9, y10, q2, s4⟩ := turns (s := vl (.frl (ns.map .int))) (c4 := x4) (c11 := .emp) (c12 := .emp) (c13 := .emp) hn (by omega) (by omega) eS.symm [0, 1, 2, 3, 4] (k := 0 + 1) (d := D1) (o := true) (c5 := x5) (c6 := .emp) (c7 := .emp) (c8 := .emp) (c9 := .emp) (c10 := .emp) (by decide) (by decide) q1
  have s4' : w4 [vl (.frl (ns.map .int)), ow D1, vl (.int V), ow (.lst S), x4, x5, .emp, .emp, .emp, .emp, .emp, .emp, .emp, .emp] = .nx [vl (.frl (ns.map .int)), ow D2, vl (.int V), .c o2 none (.lst S), x4, y5, y6, y7, y8, y9, y10, .emp, .emp, .emp] := by
    have k5 : rngOk 5 = true := by decide
    have k6 : rngD 0 (5 : Int).toNat = [0, 1, 2, 3, 4].map D.int := by rfl
    simp only [w4, p_sFor, p_iRange1, p_eC, k5, if_true, k6]
    exact s4
  have q2 : Dr 21 D2 := q2
  obtain ⟨ra, D3, ra0, ra1, q3, e3⟩ := f_draw q2 (by decide) (n := 1000000) (by decide) (by decide)
  have a3 := f_asked2 V (V + 1 + ra) (by omega) (by omega)
  rw [if_neg (by omega)] at a3
  have s5 := w5_ok (s := vl (.frl (ns.map .int))) (c3 := .c o2 none (.lst S)) (c4 := x4) (c5 := y5) (c6 := y6) (c7 := y7) (c8 := y8) (c9 := y9) (c10 := y10) (c11 := .emp) (c12 := .emp) (c13 := .emp) e3 a3
  obtain ⟨rb, D4, rb0, rb1, q4, e4⟩ := f_draw q3 (by decide) (n := 1000000000) (by decide) (by decide)
  generalize hg : 100000000000000000000 + rb = g
  have g0 : 10 ^ 20 ≤ g := by omega
  have g1 : g < 2 ^ 70 := by omega
  have s6 := w6_ok (s := vl (.frl (ns.map .int))) (c2 := vl (.int V)) (c3 := .c o2 none (.lst S)) (c4 := x4) (c5 := y5) (c6 := y6) (c7 := y7) (c8 := y8) (c9 := y9) (c10 := y10) (c11 := .emp) (c12 := .emp) (c13 := .emp) e4 hg
  have eA : g * (g - 1) / 2 = LL (g - 1) := by
    unfold LL
    rw [Int.sub_add_cancel, Int.mul_comm]
  have hm : mulOk g (g - 1) = true := mulOk_of (n := 70) (m := 70) (by omega) (by omega) (by decide)
  have s7 := w7_ok (s := vl (.frl (ns.map .int))) (c1 := ow D4) (c2 := vl (.int V)) (c3 := .c o2 none (.lst S)) (c4 := x4) (c5 := y5) (c6 := y6) (c7 := y7) (c8 := y8) (c9 := y9) (c10 := y10) (c12 := .emp) (c13 := .emp) hm eA
  obtain ⟨rc, D5, rc0, rc1, q5, e5⟩ := f_draw q4 (by decide) (n := 1000000000) (by decide) (by decide)
  obtain ⟨rd, D6, rd0, rd1, q6, e6⟩ := f_draw q5 (by decide) (n := 1000000) (by decide) (by decide)
  obtain ⟨re, D7, re0, re1, q7, e7⟩ := f_draw q6 (by decide) (n := 4) (by decide) (by decide)
  obtain ⟨t, t0, t1, e8⟩ := pick4 g0 ⟨rc0, rc1⟩ ⟨rd0, rd1⟩ re0 re1
  have s8 := w8_ok (s := vl (.frl (ns.map .int))) (c2 := vl (.int V)) (c3 := .c o2 none (.lst S)) (c4 := x4) (c5 := y5) (c6 := y6) (c7 := y7) (c8 := y8) (c9 := y9) (c10 := y10) (c12 := vl (.int (LL (g - 1)))) (c13 := .emp) e5 e6 e7 e8
  generalize hA : LL (g - 1) = A at *
  generalize hl : A + g - t = l
  have s9 := w9_ok (s := vl (.frl (ns.map .int))) (c1 := ow D7) (c2 := vl (.int V)) (c3 := .c o2 none (.lst S)) (c4 := x4) (c6 := y6) (c7 := y7) (c8 := y8) (c9 := y9) (c10 := y10) (c13 := .emp) hl
  have st := LL_step g
  have st1 := LL_step (g - 1)
  have h1 := f_lines_ok g (by omega) (by omega)
  have h2 := f_lines_ok (g - 1) (by omega) (by omega)
  have l1 : g * (g + 1) / 2 = LL g := rfl
  have l2 : (g - 1) * (g - 1 + 1) / 2 = LL (g - 1) := rfl
  rw [l1] at h1
  rw [l2, hA] at h2
  have h3 := f_thing (v := g) (t := t) (line := l) t0 t1 (by omega) (by omega)
  have h4 := f_thing (v := g) (t := g) (line := A) (by omega) (by omega) (by omega) (by omega)
  have h5 := f_thing (v := g - 1) (t := 1) (line := A - 1) (by omega) (by omega) (by omega) (by omega)
  have s10 := w10_ok (s := vl (.frl (ns.map .int))) (c1 := ow D7) (c2 := vl (.int V)) (c3 := .c o2 none (.lst S)) (c4 := x4) (c6 := y6) (c8 := y8) (c9 := y9) (c10 := y10) (c13 := .emp) h1 h2 (by omega) h3 h4 h5
  have u1 := f_sung g t (by omega) t0
  rw [if_pos (by omega)] at u1
  have u2 := f_next (v := g) (s := t) (t := t) (line := l) t0 t1 t0 (by omega) (by omega) (by omega)
  have n1 : NX g t l = l := by
    unfold NX
    have hw : (if g > t then g else t) = g := by split <;> omega
    rw [hw]
    have : l ≤ LL (g - 1) + g - t := by omega
    simp only [this, if_true]
    omega
  have u2 : mkF 2 4 d_next_line_of [vl (.int t), vl (.int l)] = .ok (vl (.int l)) [.emp, .emp] := by
    have := u2
    rw [show (let w := if g > t then g else t; if l ≤ LL (w - 1) + w - t then LL (w - 1) + w - t else LL w + (w + 1) - t) = NX g t l from rfl, n1] at this
    exact this
  have u3 : mkF 2 4 d_next_line_of [vl (.int t), vl (.int (l + 1))] = .ok (vl (.int (A + g + g + 1 - t))) [.emp, .emp] := by
    by_cases q : t = 1
    · subst q
      have := f_next (v := g + 1) (s := g + 1) (t := 1) (line := l + 1) (by omega) (by omega) (by omega) (by omega) (by omega) (by rw [Int.add_sub_cancel]; omega)
      have n2 : NX (g + 1) 1 (l + 1) = A + g + g + 1 - 1 := by
        unfold NX
        have hw : (if g + 1 > 1 then g + 1 else 1) = g + 1 := by rw [if_pos (by omega)]
        have this : l + 1 ≤ LL g + (g + 1) - 1 := by omega
        simp only [hw, Int.add_sub_cancel, this, if_true]
        omega
      rw [show (let w := if g + 1 > 1 then g + 1 else 1; if l + 1 ≤ LL (w - 1) + w - 1 then LL (w - 1) + w - 1 else LL w + (w + 1) - 1) = NX (g + 1) 1 (l + 1) from rfl, n2] at this
      exact this
    · have := f_next (v := g) (s := t - 1) (t := t) (line := l + 1) (by omega) (by omega) (by omega) (by omega) (by omega) (by omega)
      have n2 : NX g t (l + 1) = A + g + g + 1 - t := by
        unfold NX
        have hw : (if g > t then g else t) = g := by split <;> omega
        rw [hw]
        have : ¬ (l + 1 ≤ LL (g - 1) + g - t) := by omega
        simp only [this, if_false]
        omega
      rw [show (let w := if g > t then g else t; if l + 1 ≤ LL (w - 1) + w - t then LL (w - 1) + w - t else LL w + (w + 1) - t) = NX g t (l + 1) from rfl, n2] at this
      exact this
  have s11 := w11_ok (s := vl (.frl (ns.map .int))) (c1 := ow D7) (c2 := vl (.int V)) (c3 := .c o2 none (.lst S)) (c4 := x4) (c6 := y6) (c8 := y8) (c9 := y9) (c10 := y10) (c13 := .emp) u1 u2 u3
  obtain ⟨rf, D8, rf0, rf1, q8, e9⟩ := f_draw q7 (by decide) (n := 1000000000) (by decide) (by decide)
  have u4 : mkF 2 4 d_next_line_of [vl (.int (g + 5)), vl (.int rf)] = .ok (vl (.int ((g + 5) * (g + 4) / 2))) [.emp, .emp] := by
    obtain ⟨m, hm⟩ := Int.eq_ofNat_of_zero_le rf0
    obtain ⟨v, z, b1, b2, b3, b4⟩ := stands m
    have := f_next (v := v) (s := z) (t := g + 5) (line := rf) b1 b2 (by omega) (by omega) (by omega) (by rw [hm]; exact b4)
    have n3 : NX v (g + 5) rf = (g + 5) * (g + 4) / 2 := by
      unfold NX
      have hw : (if v > g + 5 then v else g + 5) = g + 5 := by rw [if_neg (by omega)]
      rw [hw]
      have m1 := LL_mono (v := g - 1) (w := g + 5 - 1) (by omega) (by omega)
      have m2 : 10 ^ 19 ≤ LL (g - 1) := by
        have := LL_mono (v := 10 ^ 19) (w := g - 1) (by decide) (by omega)
        have : (10 : Int) ^ 19 ≤ LL (10 ^ 19) := by decide
        omega
      have : rf ≤ LL (g + 5 - 1) + (g + 5) - (g + 5) := by omega
      simp only [this, if_true]
      have e5 : LL (g + 5 - 1) = (g + 5) * (g + 4) / 2 := by
        unfold LL
        rw [show g + 5 - 1 = g + 4 by omega, show g + 4 + 1 = g + 5 by omega, Int.mul_comm]
      omega
    rw [show (let w := if v > g + 5 then v else g + 5; if rf ≤ LL (w - 1) + w - (g + 5) then LL (w - 1) + w - (g + 5) else LL w + (w + 1) - (g + 5)) = NX v (g + 5) rf from rfl, n3] at this
    exact this
  have hm5 : mulOk (g + 5) (g + 4) = true := mulOk_of (n := 71) (m := 71) (by omega) (by omega) (by decide)
  have s12 := w12_ok (s := vl (.frl (ns.map .int))) (c2 := vl (.int V)) (c3 := .c o2 none (.lst S)) (c4 := x4) (c5 := vl (.int t)) (c6 := y6) (c7 := vl (.int l)) (c8 := y8) (c9 := y9) (c10 := y10) (c12 := vl (.int A)) (c13 := .emp) e9 u4 hm5
  have s13 := w13_ok (s := vl (.frl (ns.map .int))) (c1 := ow D8) (c2 := vl (.int V)) (c3 := .c o2 none (.lst S)) (c4 := x4) (c5 := vl (.int t)) (c6 := y6) (c7 := vl (.int l)) (c8 := y8) (c9 := y9) (c10 := y10) (c11 := vl (.int g)) (c12 := vl (.int A)) (c13 := .emp)
  have s14 := w14_ok (s := vl (.frl (ns.map .int))) (c1 := ow D8) (c2 := vl (.int V)) (c3 := .c o2 none (.lst S)) (c4 := x4) (c5 := vl (.int t)) (c6 := y6) (c7 := vl (.int l)) (c8 := y8) (c9 := y9) (c10 := y10) (c11 := vl (.int g)) (c12 := vl (.int A))
  refine ⟨[.emp], ?_⟩
  rw [p_mkF, d_law_eq]
  simp only [startC, List.length_cons, List.length_nil, Nat.zero_add, if_true, Nat.reduceSub, List.replicate_succ, List.replicate_zero, List.cons_append, List.nil_append, p_sSeq, s0, s1, s2, s3, s4', s5, s6, s7, s8, s9, s10, s11, s12, s13, s14, endC]
end K56

open PySem PySem.W PyProof.Rows
set_option maxHeartbeats 0 in
theorem PySem.Challenge.cw_playheld_k56_whole_songs_that_grow_holds : PySem.Challenge.rw_playheld_k56_whole_songs_that_grow.Holds := by
  w_on; o_law; k_head; (case hw => w_witness2)
  k_fill
  refine L2.walk_of (l := PySem.Challenge.rw_playheld_k56_whole_songs_that_grow) (n := 63) (k := 7) (x := "script") (CX := fun w => L2N.CX PySem.Challenge.rw_playheld_k56_whole_songs_that_grow.prog w) (sp := fun w => Sm.spLaw _) rfl (by decide) rfl ⟨rfl, by decide, by decide⟩ (fun w h Y => PySem.W.kIn_of Y) ?F (fun _ _ a ns hl _ hS => ⟨a, ns, rfl, hS, hl, fun _ => rfl⟩) (fun _ _ _ _ _ ⟨_, _, _, _, _, _, _, _, _, _, _, _, z⟩ => z)
  case F =>
    intro w mg fa h KX G hmg
    refine' K56.all_mk KX G hmg K56.law_ok ?sm_a0 ?sm_l0 ?sm_c0 ?sm_k0 ?sm_a1 ?sm_l1 ?sm_c1 ?sm_k1 ?sm_a2 ?sm_l2 ?sm_c2 ?sm_k2 ?sm_a3 ?sm_l3 ?sm_c3 ?sm_k3 ?sm_a4 ?sm_l4 ?sm_c4 ?sm_k4 ?sm_a5 ?sm_l5 ?sm_c5 ?sm_k5 ?sm_a6 ?sm_l6 ?sm_c6 ?sm_k6 ?sm_a7 ?sm_l7 ?sm_c7 ?sm_k7 ?sm_a8 ?sm_l8 ?sm_c8 ?sm_k8 ?sm_a9 ?sm_l9 ?sm_c9 ?sm_k9 ?sm_a10 ?sm_l10 ?sm_c10 ?sm_k10 ?sm_a11 ?sm_l11 ?sm_c11 ?sm_k11 ?sm_a12 ?sm_l12 ?sm_c12 ?sm_k12 ?sm_a13 ?sm_l13 ?sm_c13 ?sm_k13 ?sm_z_abs ?sm_z_bool ?sm_z_int ?sm_z_isinstance ?sm_z_len ?sm_z_max ?sm_z_range ?sm_y_isqrt ?sm_g0 ?sm_g1 ?sm_g2 ?sm_g3 ?sm_g4 ?sm_g5 ?sm_q0 ?sm_kC0 ?sm_r0 ?sm_t0 ?sm_q1 ?sm_kC1 ?sm_r1 ?sm_t1 ?sm_q2 ?sm_kC2 ?sm_r2 ?sm_t2 ?sm_q3 ?sm_kC3 ?sm_r3 ?sm_t3 ?sm_q4 ?sm_kC4 ?sm_r4 ?sm_t4 ?sm_q5 ?sm_kC5 ?sm_r5 ?sm_t5 ?sm_ic0 ?sm_s0_0 ?sm_s1_0 ?sm_s2_0 ?sm_s3_0 ?sm_s4_0 ?sm_s5_0 ?sm_ic1 ?sm_s0_1 ?sm_s1_1 ?sm_s2_1 ?sm_s3_1 ?sm_s4_1 ?sm_s5_1 ?sm_ic2 ?sm_s0_2 ?sm_s1_2 ?sm_s2_2 ?sm_s3_2 ?sm_s4_2 ?sm_s5_2 ?sm_ic3 ?sm_s0_3 ?sm_s1_3 ?sm_s2_3 ?sm_s3_3 ?sm_s4_3 ?sm_s5_3 ?sm_ic4 ?sm_s0_4 ?sm_s1_4 ?sm_s2_4 ?sm_s3_4 ?sm_s4_4 ?sm_s5_4 ?sm_ic5 ?sm_s0_5 ?sm_s1_5 ?sm_s2_5 ?sm_s3_5 ?sm_s4_5 ?sm_s5_5 ?sm_hn ?sm_ht ?sm_hg0 ?sm_hk0 ?sm_hs0 ?sm_hd0 ?sm_ha0 ?sm_hm0 ?sm_hg1 ?sm_hk1 ?sm_hs1 ?sm_hd1 ?sm_ha1 ?sm_hm1 ?sm_hg2 ?sm_hk2 ?sm_hs2 ?sm_hd2 ?sm_ha2 ?sm_hm2 ?sm_hg3 ?sm_hk3 ?sm_hs3 ?sm_hd3 ?sm_ha3 ?sm_hm3 ?sm_hg4 ?sm_hk4 ?sm_hs4 ?sm_hd4 ?sm_ha4 ?sm_hm4 ?sm_hg5 ?sm_hk5 ?sm_hs5 ?sm_hd5 ?sm_ha5 ?sm_hm5
    (case sm_a0 => k_is); (case sm_l0 => k_is); (case sm_c0 => k_is); (case sm_k0 => k_is); (case sm_a1 => k_is); (case sm_l1 => k_is); (case sm_c1 => k_is); (case sm_k1 => k_is); (case sm_a2 => k_is); (case sm_l2 => k_is); (case sm_c2 => k_is); (case sm_k2 => k_is); (case sm_a3 => k_is); (case sm_l3 => k_is); (case sm_c3 => k_is); (case sm_k3 => k_is); (case sm_a4 => k_is); (case sm_l4 => k_is); (case sm_c4 => k_is); (case sm_k4 => k_is); (case sm_a5 => k_is); (case sm_l5 => k_is); (case sm_c5 => k_is); (case sm_k5 => k_is); (case sm_a6 => k_is); (case sm_l6 => k_is); (case sm_c6 => k_is); (case sm_k6 => k_is); (case sm_a7 => k_is); (case sm_l7 => k_is); (case sm_c7 => k_is); (case sm_k7 => k_is); (case sm_a8 => k_is); (case sm_l8 => k_is); (case sm_c8 => k_is); (case sm_k8 => k_is); (case sm_a9 => k_is); (case sm_l9 => k_is); (case sm_c9 => k_is); (case sm_k9 => k_is); (case sm_a10 => k_is); (case sm_l10 => k_is); (case sm_c10 => k_is); (case sm_k10 => k_is); (case sm_a11 => k_is); (case sm_l11 => k_is); (case sm_c11 => k_is); (case sm_k11 => k_is); (case sm_a12 => k_is); (case sm_l12 => k_is); (case sm_c12 => k_is); (case sm_k12 => k_is); (case sm_a13 => k_is); (case sm_l13 => k_is); (case sm_c13 => k_is); (case sm_k13 => k_is); (case sm_z_abs => k_is); (case sm_z_bool => k_is); (case sm_z_int => k_is); (case sm_z_isinstance => k_is); (case sm_z_len => k_is); (case sm_z_max => k_is); (case sm_z_range => k_is); (case sm_y_isqrt => k_is); (case sm_g0 => k_is); (case sm_g1 => k_is); (case sm_g2 => k_is); (case sm_g3 => k_is); (case sm_g4 => k_is); (case sm_g5 => k_is); (case sm_q0 => k_exc); (case sm_kC0 => k_is); (case sm_r0 => k_is); (case sm_t0 => k_is); (case sm_q1 => k_exc); (case sm_kC1 => k_is); (case sm_r1 => k_is); (case sm_t1 => k_is); (case sm_q2 => k_exc); (case sm_kC2 => k_is); (case sm_r2 => k_is); (case sm_t2 => k_is); (case sm_q3 => k_exc); (case sm_kC3 => k_is); (case sm_r3 => k_is); (case sm_t3 => k_is); (case sm_q4 => k_exc); (case sm_kC4 => k_is); (case sm_r4 => k_is); (case sm_t4 => k_is); (case sm_q5 => k_exc); (case sm_kC5 => k_is); (case sm_r5 => k_is); (case sm_t5 => k_is); (case sm_ic0 => k_is); (case sm_s0_0 => first | rfl | k_is); (case sm_s1_0 => first | rfl | k_is); (case sm_s2_0 => first | rfl | k_is); (case sm_s3_0 => first | rfl | k_is); (case sm_s4_0 => first | rfl | k_is); (case sm_s5_0 => first | rfl | k_is); (case sm_ic1 => k_is); (case sm_s0_1 => first | rfl | k_is); (case sm_s1_1 => first | rfl | k_is); (case sm_s2_1 => first | rfl | k_is); (case sm_s3_1 => first | rfl | k_is); (case sm_s4_1 => first | rfl | k_is); (case sm_s5_1 => first | rfl | k_is); (case sm_ic2 => k_is); (case sm_s0_2 => first | rfl | k_is); (case sm_s1_2 => first | rfl | k_is); (case sm_s2_2 => first | rfl | k_is); (case sm_s3_2 => first | rfl | k_is); (case sm_s4_2 => first | rfl | k_is); (case sm_s5_2 => first | rfl | k_is); (case sm_ic3 => k_is); (case sm_s0_3 => first | rfl | k_is); (case sm_s1_3 => first | rfl | k_is); (case sm_s2_3 => first | rfl | k_is); (case sm_s3_3 => first | rfl | k_is); (case sm_s4_3 => first | rfl | k_is); (case sm_s5_3 => first | rfl | k_is); (case sm_ic4 => k_is); (case sm_s0_4 => first | rfl | k_is); (case sm_s1_4 => first | rfl | k_is); (case sm_s2_4 => first | rfl | k_is); (case sm_s3_4 => first | rfl | k_is); (case sm_s4_4 => first | rfl | k_is); (case sm_s5_4 => first | rfl | k_is); (case sm_ic5 => k_is); (case sm_s0_5 => first | rfl | k_is); (case sm_s1_5 => first | rfl | k_is); (case sm_s2_5 => first | rfl | k_is); (case sm_s3_5 => first | rfl | k_is); (case sm_s4_5 => first | rfl | k_is); (case sm_s5_5 => first | rfl | k_is); (case sm_hn => k_is); (case sm_ht => k_is); (case sm_hg0 => k_is); (case sm_hk0 => k_is); (case sm_hs0 => k_is); (case sm_hd0 => k_is); (case sm_ha0 => k_is); (case sm_hm0 => k_is); (case sm_hg1 => k_is); (case sm_hk1 => k_is); (case sm_hs1 => k_is); (case sm_hd1 => k_is); (case sm_ha1 => k_is); (case sm_hm1 => k_is); (case sm_hg2 => k_is); (case sm_hk2 => k_is); (case sm_hs2 => k_is); (case sm_hd2 => k_is); (case sm_ha2 => k_is); (case sm_hm2 => k_is); (case sm_hg3 => k_is); (case sm_hk3 => k_is); (case sm_hs3 => k_is); (case sm_hd3 => k_is); (case sm_ha3 => k_is); (case sm_hm3 => k_is); (case sm_hg4 => k_is); (case sm_hk4 => k_is); (case sm_hs4 => k_is); (case sm_hd4 => k_is); (case sm_ha4 => k_is); (case sm_hm4 => k_is); (case sm_hg5 => k_is); (case sm_hk5 => k_is); (case sm_hs5 => k_is); (case sm_hd5 => k_is); (case sm_ha5 => k_is); (case sm_hm5 => k_is)
